import Derived.Test.YtbdjepeabjangaaGreatVm14
set_option linter.all false
namespace Go.Vm
open Go
variable {g:Gh}{k:Nat}{st:St}{val:Nat->Value}{w:World}
section
variable {P:Program}
theorem dK(d:D):d.cells.length=d.ncells:=by cases d <;> rfl
theorem Ok.freshX (h:Ok w g st val)(d:Nat)(E:TypeId)(k cap:Nat)(es:List D)(cells:Array Value)(hk:0<k)(hc:es.length<=cap)(hm:cap<=maxLen)(hsize:cells.size=cap * k)
    (h1:∀(o:Nat) (c:Value),cells[o]?=some c->c.oneCell'=true) (hs:∀(i:Nat) (d:D),es[i]?=some d->d.ncells=k/\d.arr=true)
    (hr:∀(i:Nat) (d:D) (j:Nat) (e:D),es[i]?=some d->d.cells[j]?=some e->∃x,cells[i * k+j]?=some x/\R g.M g.bs e x):
    ∃g',g'.bl=g.bl/\Fr w g (w.alloc (.cells cells E)) g'/\Ok (w.alloc (.cells cells E)) g' (st.set d (.d (.xs k es))) (fun u=>if u=d then .slice (some ⟨w.heap.size,0,none⟩) es.length cap else val u):=by
  obtain⟨q1,q2⟩:=h.known cells #[] E (some (.slot d, [])) (fun o c h=>by simp at h);refine⟨{ g with M:=g.M.add w.heap.size #[],X:=fun b=>if b=w.heap.size then some (.slot d, [])else g.X b },rfl,q2,q1.set d _ _ ⟨.xs k es _ _ cap rfl hc hm (by simp),.xs _ _ _ _ (.inr ⟨w.heap.size,es.length,cap,cells,E,rfl,by simp,oH w _,hk,hsize,rfl,hc,hm,fun o=>by simp [Mem.add],h1,hs,fun i d j e a1 a2=>?_⟩)⟩⟩;obtain⟨x,x1,x2⟩:=hr i d j e a1 a2;exact⟨x,x1,x2.mono q2.mono (fun _ _ h=>h)⟩
theorem Ok.forget2 {ts d:Nat} {A B:Slot} (h:Ok w g ((st.set ts A).set d B) val)(hne:ts≠d):Ok w g ((st.set ts .any).set d B) val:=by
  have:=h.forget ts;have e:(((st.set ts A).set d B).set ts .any)=(st.set ts .any).set d B:=by
    simp only [St.set];congr 1;funext u;by_cases h1:u=d
    . subst h1;simp [Ne.symm hne]
    by_cases h2:u=ts
    . subst h2;simp [hne]
    simp [h1,h2]
  rwa [e] at this
theorem jC {z:Array Value} {n:Nat} {c:Value} (h:c∈(Builtin.zeroCells z n).toList)(hz:0<z.size):c∈z.toList:=by
  simp only [Builtin.zeroCells,Array.toList_map,bY] at h;obtain⟨i,_,rfl⟩:=h;have:i % z.size<z.size:=Nat.mod_lt _ hz;simp [this]
def rJ(k:Nat)(es:List D)(x:D):Prop:=x= .xs k es\/(x= .sl true []/\es= [])\/(x= .v (.slice none 0 0)/\es= [])
theorem Bi {ts:Nat} {es : List D} {x : D} {v : Value} (hb : rJ k es x) (h : SlotOk w g ts (.d x) v) : Ou w g.M g.bs g.X (.slot ts, []) k es v /\ (∀ cs, x ≠ .tup cs) /\ ∃ a n cap, v = .slice a n cap /\ n = es.length /\ (a = none -> n = 0 /\ cap = 0) := by
  obtain⟨hr,ho⟩:=h;rcases hb with rfl | ⟨rfl,rfl⟩ | ⟨rfl,rfl⟩
  . refine ⟨?_, by simp, ?_⟩
    . cases ho with
      | xs p k es v ho=>exact ho
      | flat p d v hf=>simp [D.flat] at hf
    cases hr with
    | xs k es a n cap hn hc hm ha=>exact⟨a,n,cap,rfl,hn,ha⟩
  . have hO : Rr w g.M g.X (.slot ts, []) [] v := by
      cases ho with
      | sl p es v ho=>exact ho
      | flat p d v hf=>simp [D.flat] at hf
    have h0:∃a,v= .slice a 0 0:=by
      rcases hO with ⟨a,n,rfl⟩ | ⟨b,n,cap,k',cur,E,_,hc,_⟩
      . cases hr with
        | nil=>exact⟨_,rfl⟩
        | emp o a' cap hm'=>exact⟨_,rfl⟩
        | sl o' es' b off n' cap k vs hl hn hk hc => have hn0 : n = 0 := by simpa using hn
                                                     subst hn0;exact⟨_,rfl⟩
      exact absurd rfl hc
    obtain⟨a,rfl⟩:=h0;exact⟨.inl ⟨rfl,a,rfl⟩,by simp,a,0,0,rfl,rfl,fun _=>⟨rfl,rfl⟩⟩
  have hv:=hr.vEq;exact⟨.inl ⟨rfl,none,hv⟩,by simp,none,0,0,hv,rfl,fun _=>⟨rfl,rfl⟩⟩
def Sb(w:World)(g:Gh)(k:Nat)(xs:List D)(vx:Value):Prop:=
  (xs = [] -> ∃ a c, vx = .slice a 0 c) /\ (xs ≠ [] -> ∃ (b off cap : Nat) (vs : List Value), vx = .slice (some ⟨b, off, none⟩) xs.length cap /\ vs.length = xs.length /\ (∀ (i : Nat) (d : D) (x : Value), xs[i]? = some d -> vs[i]? = some x -> R g.M g.bs d x) /\
      (∀x:Value,x∈vs->x.cells.size=k/\∀c:Value,c∈x.cells.toList->c.oneCell'=true)/\(∀(j:Nat) (c:Value),(vs.flatMap fun v=>v.cells.toList)[j]?=some c->w.cell? ((⟨b,off,none⟩:Addr).add j)=some c))
theorem wV (hok:Ok w g st val) {o:Bool} {xs:List D} {vx:Value} (hvx:R g.M g.bs (.sl o xs) vx)(hxs:∀d∈xs,d.ncells=k):Sb w g k xs vx:=by
  refine⟨fun h=>?_,fun h=>?_⟩
  . subst h
    cases hvx with
    | nil=>exact⟨_,_,rfl⟩
    | emp o a cap hm=>exact⟨_,_,rfl⟩
    | sl o' es b off n cap k vs hl hn=>subst hn;exact⟨_,_,rfl⟩
  obtain⟨bx,offx,capx,vvx,rfl,l1,l2,l3,l4,l5,l6,l7⟩:=wP hok hvx hxs h;exact⟨bx,offx,capx,vvx,rfl,l1,l5,l6,fun j c hj=>(l7 j c hj).1⟩
theorem gT {tmps : Array Value} (hok : Ok w g st (bQ tmps)) {t e : TypeId} {by_:Nat} {ti : TypeInfo} {zv : Value} (h1 : P.underlying t = some (.slice e)) (h2 : P.info? e = some ti) (h3 : ti.zero = some zv) (h5 : ti.size = k) (h6 : ti.bytes = by_) (h7 : zv.cells.size = k) (h8 : 0 < k) (hz : ∀ c ∈ zv.cells.toList, c.oneCell' = true)
    (ts d:Nat) (hne:ts≠d) (es xs:List D) (x0:D) (hs:st.env ts= .d x0) (hbase:rJ k es x0) (vx:Value) (hvx:Sb w g k xs vx) (hb:(es.length+xs.length) * by_<=140737488355328) (hm:es.length+xs.length<=maxLen) (hxs:∀d∈xs,d.ncells=k/\d.arr=true) (ty:TypeId):
    ∃v w' g',(Builtin.append_ #[t,t] ty #[bQ tmps ts,vx]).run P w= .ok v w'/\g'.bl=g.bl/\Fr w g w' g'/\Ok w' g' ((st.set ts .any).set d (.d (.xs k (es++xs)))) (fun u=>if u=d then v else bQ tmps u):=by
  have hsl:=hok.slot ts;rw [hs] at hsl;obtain⟨hO,hnt,a0,n0,cap0,hv0,hn0,hnil⟩:=Bi hbase hsl;generalize hv:bQ tmps ts=vs at hO hv0;subst h5;subst h6;by_cases hx0:xs= []
  . subst hx0
    have hfc:∀(a:Option Addr) (c:Nat) w,(Builtin.firstCells ti.size 0 (.slice a 0 c)).run P w= .ok #[] w:=by
      intro a c w;cases a with
      | none=>simp [Builtin.firstCells]
      | some a=>simp [Builtin.firstCells,loadCells,loadCellsFrom]
    obtain⟨a,c,rfl⟩:=hvx.1 rfl;have hrun:n0<=cap0->(Builtin.append_ #[t,t] ty #[.slice a0 n0 cap0,.slice a 0 c]).run P w= .ok (.slice a0 n0 cap0) w:=by
      intro hc;cases a0 with
      | none=>obtain⟨rfl,rfl⟩:=hnil rfl;simp [Builtin.append_,run_underlying h1,bH h2,Builtin.lenOf,hfc]
      | some a0=>simp [Builtin.append_,run_underlying h1,bH h2,Builtin.lenOf,hfc,hc,storeCells]
    rw [iK];rcases hO with ⟨rfl,a1,e1⟩ | ⟨b,n,cap,cur,E,e1,o1,o2,o3,o4,o5,o6,o7,o8,o9,o10,o11⟩
    . rw [hv0] at e1
      simp only [Value.slice.injEq] at e1;obtain⟨rfl,rfl,rfl⟩:=e1;subst hv0;refine⟨_,w,g,hrun (bD _),rfl,Fr.refl w g,?_⟩;exact(hok.forget ts).set d _ _ ⟨.xs _ [] a0 0 0 rfl (bD _) (cH _) (fun _=>⟨rfl,rfl⟩),.xs _ _ _ _ (.inl ⟨rfl,a0,rfl⟩)⟩
    rw [hv0] at e1;simp only [Value.slice.injEq] at e1;obtain⟨rfl,rfl,rfl⟩:=e1;subst hv0;refine⟨_,w, { g with X:=fG (iF (.slot ts) [] (.slot d) []) g.X },hrun o6,rfl,Fr.ren w g (iF (.slot ts) [] (.slot d) []),?_⟩;obtain⟨p1,_,_⟩:=hok.park ts _ hs hnt (iF (.slot ts) [] (.slot d) []) (fun t ht=>mD ht);have p2:=(p1.set d (.d (.xs ti.size es)) (.slice (some ⟨b,0,none⟩) n0 cap0) ⟨.xs _ es _ _ _ o5 o6 o7 (by simp),.xs _ _ _ _ (.inr ⟨b,n0,cap0,cur,E,rfl,?_,o2,o3,o4,o5,o6,o7,o8,o9,o10,o11⟩)⟩)
    . exact p2.forget2 hne
    show fG (iF (.slot ts) [] (.slot d) []) g.X b=some (.slot d, [])
    simp [fG,o1,iF]
  obtain⟨bx,offx,capx,vvx,rfl,l1,l5,l6,l7⟩:=hvx.2 hx0;have hxlen:0<xs.length:=by cases xs <;> simp_all
  have hxsz:∀v∈vvx,v.cells.size=ti.size:=fun v hv=>(l6 v hv).1;have hnl:(vvx.flatMap fun v=>v.cells.toList).length=xs.length * ti.size:=by rw [jO vvx hxsz,l1]
  have hnews:∀(j:Nat) (u:Value),(vvx.flatMap fun v=>v.cells.toList)[j]?=some u->w.cell? ((⟨bx,offx,none⟩:Addr).add j)=some u:=fun j u hj=>l7 j u hj;have hone:∀u∈(vvx.flatMap fun v=>v.cells.toList),u.oneCell'=true:=by
    intro u hu;rw [sX] at hu;obtain⟨v,hv,hu⟩:=hu;exact(l6 v hv).2 u hu
  -- the new elements' cells
  have newc:∀(i:Nat) (x:D) (j:Nat) (y:D),xs[i]?=some x->x.cells[j]?=some y->∃u,(vvx.flatMap fun v=>v.cells.toList)[i * ti.size+j]?=some u/\R g.M g.bs y u:=by
    intro i x j y a1 a2;have hi:i<vvx.length:=by rw [l1];exact(aH.1 a1).1
    have hvi:vvx[i]?=some vvx[i]:=aN hi;have hRx:=l5 i x _ a1 hvi;have hmem:=aS a1;have hsz:=hxsz _ (aS hvi);have hj:j<vvx[i].cells.size:=by
      rw [hsz,<- (hxs x hmem).1,<- dK];exact(aH.1 a2).1
    refine⟨_,tT h8 vvx hxsz hvi (aV hj),?_⟩;by_cases hany:x= .any
    . subst hany
      have:y= .any:=by
        match j with
        | 0=>simpa [D.cells] using a2.symm
        | j+1=>simp [D.cells] at a2
      rw [this];exact .any _
    have hnt':∀cs,x≠ .tup cs:=by
      rintro cs rfl;have:=(hxs _ hmem).2;simp [D.arr,D.cells,D.flat] at this
    exact(hRx.each hany hnt' j y _ a2 (aV hj)).1
  have hxs2:∀(i:Nat) (d:D),xs[i]?=some d->d.ncells=ti.size/\d.arr=true:=fun i d h=>hxs d (aS h);have hbig:es.length+xs.length<=9223372036854775807:=by unfold maxLen at hm;omega
  have hdr:Ok w.drew g (st.set ts .any) (bQ tmps):=(hok.forget ts).drew;have bdef:∀old,old<es.length+xs.length->Builtin.nextslicecap (es.length+xs.length) old * ti.bytes<=281474976710656:=fun old ho=>growslice_fits ho hb
  -- a new array
  have grown:∀(olds:List Value) (old:Nat),olds.length=es.length * ti.size->(∀c∈olds,c.oneCell'=true)->(∀(i:Nat) (d:D),es[i]?=some d->d.ncells=ti.size/\d.arr=true)->
      (∀(i:Nat) (d:D) (j:Nat) (e:D),es[i]?=some d->d.cells[j]?=some e->∃x,olds[i * ti.size+j]?=some x/\R g.M g.bs e x)->
      ∃ g', g'.bl = g.bl /\ Fr w g (w.drew.alloc (.cells (olds.toArray ++ (vvx.flatMap fun v => v.cells.toList).toArray ++ Builtin.zeroCells zv.cells (grownCap w (es.length + xs.length) old e - (es.length + xs.length))) e)) g' /\
        Ok (w.drew.alloc (.cells (olds.toArray++(vvx.flatMap fun v=>v.cells.toList).toArray++Builtin.zeroCells zv.cells (grownCap w (es.length+xs.length) old e - (es.length+xs.length))) e)) g' ((st.set ts .any).set d (.d (.xs ti.size (es++xs))))
          (fun u=>if u=d then .slice (some ⟨w.heap.size,0,none⟩) (es.length+xs.length) (grownCap w (es.length+xs.length) old e)else bQ tmps u):=by
    intro olds old a1 a2 a3 a4;have hge := grownCap_ge w (es.length + xs.length) old e;have hcm : grownCap w (es.length + xs.length) old e <= maxLen := grownCap_le_maxLen w (es.length + xs.length) old e hm;obtain ⟨g', b1, b2, b3⟩ := hdr.freshX d e ti.size (grownCap w (es.length + xs.length) old e) (es ++ xs) (olds.toArray ++ (vvx.flatMap fun v => v.cells.toList).toArray ++ Builtin.zeroCells zv.cells (grownCap w (es.length + xs.length) old e - (es.length + xs.length))) h8
      (by simpa using hge) hcm
      (by
        simp only [pZ,eK,size_zeroCells,hnl,h7,a1,<- cB];congr 1;omega)
      (fun o c ho=>by
        have hmem:c∈(olds.toArray++(vvx.flatMap fun v=>v.cells.toList).toArray++Builtin.zeroCells zv.cells (grownCap w (es.length+xs.length) old e - (es.length+xs.length))).toList:=by
          rw [<- cQ] at ho;exact aS ho
        rw [iB,iB] at hmem;rcases dZ.1 hmem with h | h
        . rcases dZ.1 h with h | h
          . exact a2 c (by simpa using h)
          exact hone c (by simpa using h)
        exact hz c (jC h (by omega)))
      (fun i d c1=>by
        by_cases hi:i<es.length
        . rw [aU hi] at c1;exact a3 i d c1
        rw [bI (by omega)] at c1;exact hxs2 _ d c1)
      (fun i d j y c1 c2=>by
        have hjk:j<ti.size:=by
          have hd:d.ncells=ti.size:=by
            by_cases hi:i<es.length
            . rw [aU hi] at c1;exact(a3 i d c1).1
            rw [bI (by omega)] at c1;exact(hxs2 _ d c1).1
          rw [<- hd,<- dK];exact(aH.1 c2).1
        rw [<- cQ,iB,iB];by_cases hi:i<es.length
        . rw [aU hi] at c1
          obtain⟨x,x1,x2⟩:=a4 i d j y c1 c2;refine⟨x,?_,x2⟩;have hlt:i * ti.size+j<olds.length:=(aH.1 x1).1;rw [bN,aU (by simpa using hlt)];simpa using x1
        rw [bI (by omega)] at c1;obtain⟨x,x1,x2⟩:=newc _ d j y c1 c2;refine⟨x,?_,x2⟩;have hlt:(i - es.length) * ti.size+j<(vvx.flatMap fun v=>v.cells.toList).length:=(aH.1 x1).1;have hsub:i * ti.size=es.length * ti.size+(i - es.length) * ti.size:=by rw [<- cB];congr 1;omega
        rw [bN,bI (by simp only [a1];omega),aU (by simp only [a1] at *;simpa using(by omega:i * ti.size+j - es.length * ti.size<(vvx.flatMap fun v=>v.cells.toList).length))];have:i * ti.size+j - es.length * ti.size=(i - es.length) * ti.size+j:=by omega
        simp only [a1];rw [this];simpa using x1)
    have hfr:Fr w g w.drew g:=Fr.drew w g;refine⟨g',b1,hfr.trans b2,?_⟩;simp only [aX] at b3;exact b3
  rcases hO with ⟨rfl,a1,e1⟩ | ⟨b,n,cap,cur,E,e1,o1,o2,o3,o4,o5,o6,o7,o8,o9,o10,o11⟩
  . rw [hv0] at e1
    simp only [Value.slice.injEq] at e1;obtain⟨rfl,rfl,rfl⟩:=e1;subst hv0;obtain⟨g',b1,b2,b3⟩:=grown [] 0 (by simp) (fun c h=>by simp at h) (fun i d h=>by simp at h) (fun i d j e h=>by simp at h);simp only [dO,dT,aK] at *;cases a0 with
    | none =>
      refine⟨_,_,g',run_append_nil (P:=P) w t ty e ti zv h1 h2 h3 ⟨bx,offx,none⟩ xs.length capx _ hnl hnews hxlen (by omega) (by omega),b1,?_,?_⟩
      . simpa using b2
      simpa using b3
    | some a0 =>
      have hr:=run_append_grow (P:=P) w t ty e ti zv h1 h2 h3 a0 0 0 [] (by simp) (fun j v h=>by simp at h) ⟨bx,offx,none⟩ xs.length capx _ hnl hnews (by omega) (by omega) (by simpa using bdef 0 (by omega));simp only [dT] at hr;exact⟨_,_,g',hr,b1,b2,b3⟩
  rw [hv0] at e1;simp only [Value.slice.injEq] at e1;obtain⟨rfl,rfl,rfl⟩:=e1;subst hv0;subst o5;have hcs:es.length * ti.size<=cur.size:=by rw [o4];exact eN _ o6
  by_cases hroom:es.length+xs.length<=cap0
  . have hfit : es.length * ti.size + (vvx.flatMap fun v => v.cells.toList).length <= cur.size := by
      rw [hnl,o4,<- cB];exact eN _ hroom
    have hr:=pU (P:=P) w t ty e E ti h1 h2 b es.length cap0 cur o2 ⟨bx,offx,none⟩ xs.length capx _ hnl hnews hone hroom hfit;generalize hcur:(cur.toList.take (es.length * ti.size)++(vvx.flatMap fun v=>v.cells.toList)++cur.toList.drop (es.length * ti.size+(vvx.flatMap fun v=>v.cells.toList).length)).toArray=cur' at hr;have hget:∀o,cur'[o]?=if o<es.length * ti.size then cur[o]? else if o<es.length * ti.size+(vvx.flatMap fun v=>v.cells.toList).length then(vvx.flatMap fun v=>v.cells.toList)[o - es.length * ti.size]? else cur[o]?:=by
      intro o;rw [<- hcur,eO,eA (by simpa using hfit)];simp
    have hsize:cur'.size=cur.size:=by
      rw [<- hcur,eK,gA (by simpa using hfit),bF]
    obtain⟨p1,_,_⟩:=hok.park ts _ hs hnt (iF (.slot ts) [] (.slot d) []) (fun t ht=>mD ht);have htag:fG (iF (.slot ts) [] (.slot d) []) g.X b=some (.slot d, []):=by simp [fG,o1,iF]
    obtain⟨q1,q2⟩:=(p1.forget d).extend d b 0 cur cur' E (fun _=>none) htag (by simp [St.set]) o2 (fun o _=>o8 o) (fun o h=>by omega) (fun o c h=>by cases h);have q2':=(Fr.ren w g (iF (.slot ts) [] (.slot d) [])).trans q2;refine⟨_,_,_,hr,?_,q2',?_⟩
    . rfl
    have hMM:∀o,(if o<0 then g.M b o else none)=none:=fun o=>by simp
    have q3:=q1.set d (.d (.xs ti.size (es++xs))) (.slice (some ⟨b,0,none⟩) (es.length+xs.length) cap0) ⟨.xs _ _ _ _ _ (by simp) hroom o7 (by simp),.xs _ _ _ _ (.inr ⟨b,_,cap0,cur',E,rfl,htag,setRow_heap w b cur cur' E (0,0) o2,o3,by rw [hsize,o4],by simp,hroom,o7,fun o=>by simp,?_,?_,?_⟩)⟩
    . have e : (((st.set ts (.d x0.s2)).set d .any).set d (.d (.xs ti.size (es ++ xs)))) = (st.set ts (.d x0.s2)).set d (.d (.xs ti.size (es ++ xs))) := St.set_set st ts d _ _ _
      rw [e] at q3;exact q3.forget2 hne
    . intro o c ho
      rw [hget] at ho;split at ho
      . exact o9 o c ho
      split at ho
      . exact hone c (aS ho)
      exact o9 o c ho
    . intro i d' c1
      by_cases hi:i<es.length
      . rw [aU hi] at c1;exact o10 i d' c1
      rw [bI (by omega)] at c1;exact hxs2 _ d' c1
    intro i d' j y c1 c2;by_cases hi:i<es.length
    . rw [aU hi] at c1
      obtain⟨x,x1,x2⟩:=o11 i d' j y c1 c2;have hjk:j<ti.size:=by
        rw [<- (o10 i d' c1).1,<- dK];exact(aH.1 c2).1
      have hlt:i * ti.size+j<es.length * ti.size:=by
        have:(i+1) * ti.size<=es.length * ti.size:=eN _ hi;rw [cB] at this;omega
      refine⟨x,by rw [hget,aR hlt];exact x1,x2.mono ?_ (fun _ _ h=>h)⟩;exact q2.mono
    rw [bI (by omega)] at c1;obtain⟨x,x1,x2⟩:=newc _ d' j y c1 c2;have hlt:(i - es.length) * ti.size+j<(vvx.flatMap fun v=>v.cells.toList).length:=(aH.1 x1).1;have hsub:i * ti.size=es.length * ti.size+(i - es.length) * ti.size:=by rw [<- cB];congr 1;omega
    have ha:¬(i * ti.size+j<es.length * ti.size):=by omega
    have hb':i * ti.size+j<es.length * ti.size+(vvx.flatMap fun v=>v.cells.toList).length:=by omega
    refine⟨x,by rw [hget,aG ha,aR hb',show i * ti.size+j - es.length * ti.size=(i - es.length) * ti.size+j by omega];exact x1,x2.mono q2.mono (fun _ _ h=>h)⟩
  have hto:(cur.toList.take (es.length * ti.size)).length=es.length * ti.size:=by rw [bB,bF];exact iA hcs
  have hgt:∀(j:Nat) (v:Value),(cur.toList.take (es.length * ti.size))[j]?=some v->j<es.length * ti.size/\cur[j]?=some v:=by
    intro j v hj;rw [dX] at hj;split at hj
    . rename_i h;exact⟨h,by simpa using hj⟩
    cases hj
  obtain⟨g',b1,b2,b3⟩:=grown (cur.toList.take (es.length * ti.size)) cap0 hto (fun c hc=>by
      obtain⟨j,hj⟩:=dY hc;exact o9 j c (hgt j c hj).2) o10 (fun i d' j y c1 c2=>by
      obtain⟨x,x1,x2⟩:=o11 i d' j y c1 c2;have hi:=(aH.1 c1).1;have hjk:j<ti.size:=by
        rw [<- (o10 i d' c1).1,<- dK];exact(aH.1 c2).1
      have hlt:i * ti.size+j<es.length * ti.size:=by
        have:(i+1) * ti.size<=es.length * ti.size:=eN _ hi;rw [cB] at this;omega
      exact⟨x,by rw [dX,aR hlt];simpa using x1,x2⟩)
  have hr:=run_append_grow (P:=P) w t ty e ti zv h1 h2 h3 ⟨b,0,none⟩ es.length cap0 (cur.toList.take (es.length * ti.size)) hto (fun j v hj=>by
      rw [Addr.add_none,cell_of_row w b (0+j) cur E (0,0) o2,dT];exact(hgt j v hj).2) ⟨bx,offx,none⟩ xs.length capx _ hnl hnews (by omega) (by omega) (bdef cap0 (by omega))
  exact⟨_,_,g',hr,b1,b2,b3⟩
end
section
variable {P:Program}
theorem qJ (hk:0<k):∀(es:List D),(∀d∈es,d.cells.length=k)->∀j,(es.flatMap D.cells)[j]?=(es[j / k]?).bind fun d=>d.cells[j % k]?
  | [],_,j=>by simp
  | d :: es, h, j => by
    have hd:=h d (by simp);have ih:=qJ hk es fun x hx=>h x (by simp [hx]);rw [hU];by_cases hj:j<k
    . rw [aU (by omega),tN hj,nL hj];rfl
    rw [bI (by omega),hd,ih];have e1:j / k=(j - k) / k+1:=by
      have:=Nat.add_div_right (j - k) hk;rw [show j - k+k=j by omega] at this;exact this
    have e2:j % k=(j - k) % k:=by
      have:=xF (j - k) k;rw [show j - k+k=j by omega] at this;exact this
    rw [e1,e2];rfl
theorem nF :∀(es:List D),(∀d∈es,d.cells.length=k)->(es.flatMap D.cells).length=es.length * k
  | [],_=>by simp
  | d :: es, h => by
    rw [hU,aX,h d (by simp),nF es fun x hx=>h x (by simp [hx]),bU,cB];omega
theorem wT (hk:0<k)(es:List D)(h:∀d∈es,d.cells.length=k) {i j:Nat} {d c:D} (hd:es[i]?=some d)(hc:d.cells[j]?=some c):(es.flatMap D.cells)[i * k+j]?=some c:=by
  have hj:j<k:=by rw [<- h d (aS hd)];exact(aH.1 hc).1
  rw [qJ hk es h,tJ,Nat.add_mul_div_right _ _ hk,tN hj,dT,hd,Nat.add_mul_mod_self_right,nL hj];exact hc
def eZ(b:Nat)(t:jK)(X:Nat->Option jK):Nat->Option jK:=fun b'=>if b'=b then some t else X b'
theorem Ok.openX2 (h : Ok w g st val) (ts k : Nat) (es : List D) (hs : st.env ts = .d (.xs k es)) (hk0 : 0 < k) :
    ∃ (cap : Nat) (rest : List D) (g' : Gh), es.length <= cap /\ cap <= maxLen /\ rest = List.replicate ((cap - es.length) * k) .any /\ 0 < k /\ (∀ d ∈ es, d.ncells = k /\ d.arr = true) /\ g'.bl = g.bl /\ Fr w g w g' /\
      Ok w g' { st.set ts (.d (.slo st.obj.length 0 es.length cap))with obj:=st.obj++ [es.flatMap D.cells++rest] } val:=by
  have hsl:=h.slot ts;rw [hs] at hsl;obtain⟨hr,ho⟩:=hsl;have hO:Ou w g.M g.bs g.X (.slot ts, []) k es (val ts):=by
    cases ho with
    | xs p k es v ho=>exact ho
    | flat p d v hf=>simp [D.flat] at hf
  rcases hO with ⟨rfl,_⟩ | ⟨b,n,cap,cur,E,hv,o1,o2,o3,o4,o5,o6,o7,o8,o9,o10,o11⟩
  . rename_i hv0
    obtain⟨a,hv⟩:=hv0;have hbs:∀(n b':Nat),g.bs[n]?=some b'->(g.bs++ [0])[n]?=some b':=fun n b' hb=>by
      rw [aU (by exact(aH.1 hb).1)];exact hb
    have other:∀(hd:Holder) (b':Nat) (q:List Nat),g.X b'=some (hd,q)->w.heap[b']?=w.heap[b']?/\(∀o,g.M b' o=none->g.M b' o=none)/\g.X b'=some (hd,q):=fun hd b' q hx=>⟨rfl,fun _ h=>h,hx⟩;refine⟨0, [], { g with bs:=g.bs++ [0] },by simp,by simp,by simp,hk0,by simp,rfl,⟨rfl,rfl,rfl,bD _,fun b' hb' hx=>⟨rfl,hx,fun _=>rfl⟩,fun _ _ _ h=>h,hbs⟩,?_⟩;refine⟨h.mem,h.xlt,fun u=>?_,h.ll,fun n b' cs h1 h2=>(h.loc n b' cs h1 h2).keep (fun _ _ _ h=>h) hbs (other _),by simp [h.ol],fun n b' cs h1 h2=>?_⟩
    . simp only [St.set]
      by_cases hu:u=ts
      . subst hu
        simp only [aJ];rw [hv];exact⟨.slo _ 0 _ 0 _ (fun h=>absurd h (by simp)) (by simp) (by simp),.flat _ _ _ rfl⟩
      simp only [hu,aZ];exact(h.slot u).keep (fun _ _ _ h=>h) hbs (fun _ _ h=>h) (other _)
    by_cases hn:n<st.obj.length
    . have h1' : g.bs[n]? = some b' := by rw [aU (by rw [h.ol]; exact hn)] at h1; exact h1
      have h2':st.obj[n]?=some cs:=by rw [aU hn] at h2;exact h2
      exact(h.obj n b' cs h1' h2').keep (fun _ _ _ h=>h) hbs (other _)
    have hlt:=(aH.1 h2).1;simp at hlt;have hn':n=st.obj.length:=by omega
    subst hn';exact .inl (by simpa using h2.symm)
  subst o5;have hlen:∀d∈es,d.cells.length=k:=fun d hd=>by
    obtain⟨i,hi⟩:=dY hd;rw [dK];exact(o10 i d hi).1
  have hfl:=nF es hlen;have hbs:∀(n b':Nat),g.bs[n]?=some b'->(g.bs++ [b])[n]?=some b':=fun n b' hb=>by
    rw [aU (by exact(aH.1 hb).1)];exact hb
  have hsub:es.length * k+(cap - es.length) * k=cap * k:=by rw [<- cB];congr 1;omega
  have other:∀(hd:Holder),hd≠ .slot ts->∀(b':Nat) (q:List Nat),g.X b'=some (hd,q)->w.heap[b']?=w.heap[b']?/\(∀o,g.M b' o=none->g.M b' o=none)/\eZ b (.obj st.obj.length, []) g.X b'=some (hd,q):=by
    intro hd hne b' q hx;refine⟨rfl,fun _ h=>h,?_⟩;have:b'≠b:=by intro e;subst e;rw [o1] at hx;simp only [aP,fK] at hx;exact hne hx.1.symm
    simp only [eZ,aG this];exact hx
  refine⟨cap,List.replicate ((cap - es.length) * k) .any, { g with X:=eZ b (.obj st.obj.length, []) g.X,bs:=g.bs++ [b] },o6,o7,rfl,o3,fun d hd=>by
    obtain⟨i,hi⟩:=dY hd;exact o10 i d hi,rfl,⟨rfl,rfl,rfl,bD _,fun b' hb' hx=>⟨rfl,?_,fun _=>rfl⟩,fun _ _ _ h=>h,hbs⟩,?_⟩
  . have : b' ≠ b := by intro e; subst e; rw [o1] at hx; cases hx
    show eZ b (.obj st.obj.length, []) g.X b'=none
    simp only [eZ,aG this];exact hx
  refine⟨h.mem,fun b' t hx=>?_,fun u=>?_,h.ll,fun n b' cs h1 h2=>(h.loc n b' cs h1 h2).keep (fun _ _ _ h=>h) hbs (other _ (by simp)),by simp [h.ol],fun n b' cs h1 h2=>?_⟩
  . by_cases e : b' = b
    . subst e;exact h.xlt _ _ o1
    simp only [eZ,aG e] at hx;exact h.xlt b' t hx
  . simp only [St.set]
    by_cases hu:u=ts
    . subst hu
      simp only [aJ];rw [hv];exact⟨.slo _ 0 _ cap _ (fun _=>⟨b,by rw [<- h.ol];simp,rfl⟩) o6 o7,.flat _ _ _ rfl⟩
    simp only [hu,aZ];exact(h.slot u).keep (fun _ _ _ h=>h) hbs (fun _ _ h=>h) (other _ (by simp [hu]))
  by_cases hn:n<st.obj.length
  . have h1' : g.bs[n]? = some b' := by rw [aU (by rw [h.ol]; exact hn)] at h1; exact h1
    have h2':st.obj[n]?=some cs:=by rw [aU hn] at h2;exact h2
    exact(h.obj n b' cs h1' h2').keep (fun _ _ _ h=>h) hbs (other _ (by simp))
  have hlt:=(aH.1 h2).1;simp at hlt;have hn':n=st.obj.length:=by omega
  subst hn';have e1:b'=b:=by
    have h1':=h1;rw [<- h.ol] at h1';simpa using h1'.symm
  have e2:cs=es.flatMap D.cells++List.replicate ((cap - es.length) * k) .any:=by simpa using h2.symm
  subst e1;subst e2;refine .inr ⟨cur,E,o2,?_,by simp [eZ],o8,fun i d x a1 a2=>?_⟩
  . rw [aX,hfl,cW,hsub,o4]
  have h1c:=o9 i x a2;by_cases hi:i<es.length * k
  . rw [aU (by rw [hfl]; exact hi), qJ o3 es hlen, jE] at a1
    obtain⟨d0,b1,b2⟩:=a1;obtain⟨y,y1,y2⟩:=o11 _ d0 _ d b1 b2;have:i / k * k+i % k=i:=by rw [lN];exact sZ i k
    rw [this,a2] at y1;have hyx:y=x:=by simpa using y1.symm
    subst hyx;have harr:=(o10 _ d0 b1).2;have hf:d.flat=true:=by
      unfold D.arr at harr;rw [eJ] at harr;exact harr d (aS b2)
    exact⟨y2.mono (fun _ _ _ h=>h) hbs,.flat _ _ _ hf,h1c⟩
  rw [bI (by rw [hfl];omega)] at a1;have hd:d= .any:=lW (aS a1);subst hd;exact⟨.any _,.flat _ _ _ rfl,h1c⟩
theorem Ok.openX (h:Ok w g st val)(ts k:Nat)(es:List D)(hs:st.env ts= .d (.xs k es))(hk0:0<k):
    ∃ (cap : Nat) (rest : List D) (g' : Gh), es.length <= cap /\ cap <= maxLen /\ rest.length = (cap - es.length) * k /\ 0 < k /\ (∀ d ∈ es, d.ncells = k /\ d.arr = true) /\ g'.bl = g.bl /\ Fr w g w g' /\
      Ok w g' { st.set ts (.d (.slo st.obj.length 0 es.length cap))with obj:=st.obj++ [es.flatMap D.cells++rest] } val:=by
  obtain⟨cap,rest,g',a1,a2,a3,a4,a5,a6,a7,a8⟩:=h.openX2 ts k es hs hk0;exact⟨cap,rest,g',a1,a2,by rw [a3,cW],a4,a5,a6,a7,a8⟩
theorem Ok.closeX (h : Ok w g st val) (ts k m len cap : Nat) (es cs : List D) (hs : st.env ts = .d (.slo m 0 len cap)) (hm : st.obj[m]? = some cs) (hk : 0 < k) (hcs : cs.length = cap * k) (hl : es.length = len)
    (hes:∀d∈es,d.ncells=k/\d.arr=true) (he:es.flatMap D.cells<+:cs):
    ∃g',g'.bl=g.bl/\Fr w g w g'/\Ok w g' { st.set ts (.d (.xs k es))with obj:=st.obj.set m [] } val:=by
  have hsl:=h.slot ts;rw [hs] at hsl;obtain⟨hr,_⟩:=hsl;generalize hv:val ts=v at hr;cases hr with
  | slo _ _ _ _ x hb hc hmx=>
  have hml0:m<st.obj.length:=(aH.1 hm).1;rcases sL cap with hc0 | hcap0
  . subst hc0
    have hl0:len=0:=by omega
    subst hl0;have hes0:es= []:=jW hl;subst hes0;have other:∀(hd:Holder) (b':Nat) (q:List Nat),g.X b'=some (hd,q)->w.heap[b']?=w.heap[b']?/\(∀o,g.M b' o=none->g.M b' o=none)/\g.X b'=some (hd,q):=fun hd b' q hx=>⟨rfl,fun _ h=>h,hx⟩;refine⟨g,rfl,Fr.refl w g,h.mem,h.xlt,fun u=>?_,h.ll,h.loc,by simp [h.ol],fun n b' cs' h1 h2=>?_⟩
    . simp only [St.set]
      by_cases hu:u=ts
      . subst hu
        simp only [aJ];rw [hv];exact⟨.xs k [] _ _ 0 rfl (bD _) hmx (fun _=>⟨rfl,rfl⟩),.xs _ _ _ _ (.inl ⟨rfl,_,rfl⟩)⟩
      simp only [hu,aZ];exact h.slot u
    rw [bS] at h2;split at h2
    . simp only [aP] at h2
      exact .inl (by simpa [hml0] using h2.symm)
    exact h.obj n b' cs' h1 h2
  have hne:cs≠ []:=by
    intro e;rw [e] at hcs;have:0<cap * k:=lU hcap0 hk;simp at hcs;omega
  obtain⟨b,hb2,rfl⟩:=hb hcap0;obtain⟨cur,E,o1,o2,o3,o4,o5⟩:=(h.obj m b cs hb2 hm).resolve_left hne;have hlen:∀d∈es,d.cells.length=k:=fun d hd=>by rw [dK];exact(hes d hd).1
  have hml:m<st.obj.length:=(aH.1 hm).1;have other:∀(hd:Holder),hd≠ .obj m->∀(b':Nat) (q:List Nat),g.X b'=some (hd,q)->w.heap[b']?=w.heap[b']?/\(∀o,g.M b' o=none->g.M b' o=none)/\eZ b (.slot ts, []) g.X b'=some (hd,q):=by
    intro hd hne b' q hx;refine⟨rfl,fun _ h=>h,?_⟩;have:b'≠b:=by intro e;subst e;rw [o3] at hx;simp only [aP,fK] at hx;exact hne hx.1.symm
    simp only [eZ,aG this];exact hx
  refine⟨{ g with X:=eZ b (.slot ts, []) g.X },rfl,⟨rfl,rfl,rfl,bD _,fun b' hb' hx=>⟨rfl,?_,fun _=>rfl⟩,fun _ _ _ h=>h,fun _ _ h=>h⟩,?_⟩
  . have : b' ≠ b := by intro e; subst e; rw [o3] at hx; cases hx
    show eZ b (.slot ts, []) g.X b'=none
    simp only [eZ,aG this];exact hx
  refine⟨h.mem,fun b' t hx=>?_,fun u=>?_,h.ll,fun n b' cs h1 h2=>(h.loc n b' cs h1 h2).keep (fun _ _ _ h=>h) (fun _ _ h=>h) (other _ (by simp)),by simp [h.ol],fun n b' cs' h1 h2=>?_⟩
  . by_cases e : b' = b
    . subst e;exact h.xlt _ _ o3
    simp only [eZ,aG e] at hx;exact h.xlt b' t hx
  . simp only [St.set]
    by_cases hu:u=ts
    . subst hu
      simp only [aJ];rw [hv];refine⟨.xs k es _ _ cap hl.symm (by omega) hmx (by simp),.xs _ _ _ _ (.inr ⟨b,len,cap,cur,E,rfl,by simp [eZ],o1,hk,by rw [o2,hcs],hl.symm,hc,hmx,o4,fun o c ho=>?_,fun i d hi=>hes d (aS hi),fun i d j e a1 a2=>?_⟩)⟩
      . have hlt := (cZ.1 ho).1
        rw [o2] at hlt;exact(o5 o _ c (aN hlt) ho).2.2
      have hcell:=wT hk es hlen a1 a2;obtain⟨rest,hrest⟩:=he;have hcc:cs[i * k+j]?=some e:=by
        rw [<- hrest,aU (by exact(aH.1 hcell).1)];exact hcell
      have hlt:=(aH.1 hcc).1;rw [<- o2] at hlt;exact⟨_,aV hlt,(o5 _ e _ hcc (aV hlt)).1⟩
    simp only [hu,aZ];exact(h.slot u).keep (fun _ _ _ h=>h) (fun _ _ h=>h) (fun _ _ h=>h) (other _ (by simp))
  rw [bS] at h2;split at h2
  . simp only [aP] at h2
    exact .inl (by simpa [hml] using h2.symm)
  rename_i e;exact(h.obj n b' cs' h1 h2).keep (fun _ _ _ h=>h) (fun _ _ h=>h) (other _ (by simp;exact fun e'=>e e'.symm))
end
section
variable {P:Program}
def De(cur:Array Value)(k i:Nat):D->Value
  | .agg _=> .agg (cur.extract (i * k) (i * k+k))
  | _=>cur.getD (i * k) undef
theorem Oe {M:Mem} {bs:List Nat} {cur:Array Value} {i:Nat} {d:D} (hd:d.ncells=k)(ha:d.arr=true)(hfit:i * k+k<=cur.size)(h1:∀(o:Nat) (c:Value),cur[o]?=some c->c.oneCell'=true)
    (hr:∀(j:Nat) (e:D),d.cells[j]?=some e->∃x,cur[i * k+j]?=some x/\R M bs e x) (hk:0<k):
    R M bs d (De cur k i d)/\(De cur k i d).cells.size=k/\∀(j:Nat) (c:Value),(De cur k i d).cells[j]?=some c->j<k/\cur[i * k+j]?=some c:=by
  by_cases hag:∃cs,d= .agg cs
  . obtain ⟨cs, rfl⟩ := hag
    have hsz:(cur.extract (i * k) (i * k+k)).size=k:=by rw [Array.size_extract];omega
    have hget:∀j,j<k->(cur.extract (i * k) (i * k+k))[j]?=cur[i * k+j]?:=fun j hj=>by
      rw [qA];rw [aR (by omega)]
    have hcs:cs.length=k:=hd;refine⟨.agg cs _ (by rw [hsz,hcs]) (fun j e x a1 a2=>?_) (fun j x a2=>?_),hsz,fun j c hj=>?_⟩
    . have hj : j < k := by rw [<- hcs]; exact (aH.1 a1).1
      rw [hget j hj] at a2;obtain⟨y,y1,y2⟩:=hr j e a1;rw [a2] at y1;have:y=x:=by simpa using y1.symm
      subst this;exact y2
    . have hj : j < k := by rw [<- hsz]; exact (cZ.1 a2).1
      rw [hget j hj] at a2;exact h1 _ x a2
    have hj':j<k:=by
      have:=(cZ.1 hj).1;simp only [De,Value.cells] at this;omega
    exact⟨hj',by rw [<- hget j hj'];exact hj⟩
  have hc:d.cells= [d]:=by cases d <;> first | rfl | exact absurd ⟨_,rfl⟩ hag
  have hk1:k=1:=by rw [<- hd,<- dK,hc];rfl
  subst hk1;obtain⟨x,x1,x2⟩:=hr 0 d (by rw [hc];rfl);have he:De cur 1 i d=x:=by
    have:De cur 1 i d=cur.getD (i * 1) undef:=by cases d <;> first | rfl | exact absurd ⟨_,rfl⟩ hag
    rw [this,gJ];have x1':cur[i * 1]?=some x:=by simpa using x1
    rw [x1'];rfl
  have h1x:=h1 _ x x1;rw [he];refine⟨x2,by rw [Value.cells_one h1x];rfl,fun j c hj=>?_⟩;rw [Value.cells_one h1x] at hj
  match j with
  | 0=>simp at hj;subst hj;exact⟨by omega,x1⟩
  | j+1=>simp at hj
theorem Ok.freezeX (h:Ok w g st val)(ts k:Nat)(es:List D)(hs:st.env ts= .d (.xs k es)):
    ∃g',g'.bl=g.bl/\Fr w g w g'/\Ok w g' (st.set ts (.d (.sl false es))) val:=by
  have hsl:=h.slot ts;rw [hs] at hsl;obtain⟨hr,ho⟩:=hsl;have hO:Ou w g.M g.bs g.X (.slot ts, []) k es (val ts):=by
    cases ho with
    | xs p k es v ho=>exact ho
    | flat p d v hf=>simp [D.flat] at hf
  have valset:(fun u=>if u=ts then val ts else val u)=val:=by funext u;split <;> simp_all
  by_cases hes:es= []
  . subst hes
    generalize hv:val ts=v at hr;cases hr with
    | xs _ _ a n cap hn hc hm ha=>
    have hn0:n=0:=by simpa using hn
    subst hn0;refine⟨g,rfl,Fr.refl w g,?_⟩;have:=h.set ts (.d (.sl false [])) (val ts) ⟨by
      rw [hv];cases a with
      | none=>obtain⟨_,rfl⟩:=ha rfl;exact .nil _
      | some a=>exact .emp _ a cap hm,.flat _ _ _ rfl⟩
    rwa [valset] at this
  rcases hO with ⟨rfl,_⟩ | ⟨b,n,cap,cur,E,hv,o1,o2,o3,o4,o5,o6,o7,o8,o9,o10,o11⟩
  . exact absurd rfl hes
  subst o5
  let M':Mem:=fun b' o=>if b'=b then(if o<es.length * k then cur[o]? else none)else g.M b' o
  have hle:g.M.le M':=fun b' o c hc=>by
    by_cases e:b'=b
    . subst e;rw [o8] at hc;cases hc
    simp only [M',aG e];exact hc
  have other:∀(hd:Holder),hd≠ .slot ts->∀(b':Nat) (q:List Nat),g.X b'=some (hd,q)->w.heap[b']?=w.heap[b']?/\(∀o,g.M b' o=none->M' b' o=none)/\g.X b'=some (hd,q):=by
    intro hd hne b' q hx;have:b'≠b:=by intro e;subst e;rw [o1] at hx;simp only [aP,fK] at hx;exact hne hx.1.symm
    exact⟨rfl,fun o ho=>by simp only [M',aG this];exact ho,hx⟩
  refine⟨{ g with M:=M' },rfl,⟨rfl,rfl,rfl,bD _,fun b' hb' hx=>⟨rfl,hx,fun o=>?_⟩,hle,fun _ _ h=>h⟩,⟨fun b' o c hc=>?_,h.xlt,fun u=>?_,h.ll,fun n b' cs h1 h2=>(h.loc n b' cs h1 h2).keep hle (fun _ _ h=>h) (other _ (by simp)),h.ol,fun n b' cs h1 h2=>(h.obj n b' cs h1 h2).keep hle (fun _ _ h=>h) (other _ (by simp))⟩⟩
  . have : b' ≠ b := by intro e; subst e; rw [o1] at hx; cases hx
    show M' b' o=_
    simp only [M',aG this]
  . by_cases e : b' = b
    . subst e
      simp only [M',aJ] at hc;split at hc
      . rw [cell_of_row w b' o cur E (0,0) o2];exact hc
      cases hc
    simp only [M',aG e] at hc;exact h.mem b' o c hc
  simp only [St.set];by_cases hu:u=ts
  . subst hu
    simp only [aJ];rw [hv];refine⟨?_,.flat _ _ _ rfl⟩;have hfit:∀i,i<es.length->i * k+k<=es.length * k:=fun i hi=>by
      have:(i+1) * k<=es.length * k:=eN _ hi;rw [cB] at this;omega
    have hcap:es.length * k<=cur.size:=by rw [o4];exact eN _ o6
    have el:∀(i:Nat) (d:D),es[i]?=some d->R M' g.bs d (De cur k i d)/\(De cur k i d).cells.size=k/\∀(j:Nat) (c:Value),(De cur k i d).cells[j]?=some c->j<k/\cur[i * k+j]?=some c:=by
      intro i d hi;have hil:=(aH.1 hi).1;have:=hfit i hil;obtain⟨r1,r2,r3⟩:=Oe (M:=g.M) (bs:=g.bs) (o10 i d hi).1 (o10 i d hi).2 (by omega) o9 (fun j e hj=>o11 i d j e hi hj) o3;exact⟨r1.mono hle (fun _ _ h=>h),r2,r3⟩
    have hvs:∀(i:Nat) (x:Value),(es.mapIdx fun i d=>De cur k i d)[i]?=some x->∃d,es[i]?=some d/\x=De cur k i d:=by
      intro i x hi;rw [List.getElem?_mapIdx,cU] at hi;obtain⟨d,h1,h2⟩:=hi;exact⟨d,h1,h2.symm⟩
    refine .sl false es b 0 _ cap k (es.mapIdx fun i d=>De cur k i d) (by simp) rfl o3 o6 o7 (fun i d x a1 a2=>?_) (fun i d hi=>(o10 i d hi).1) (fun i x a2=>?_)
    . obtain ⟨d', h1, rfl⟩ := hvs i x a2
      rw [a1] at h1;have:d=d':=by simpa using h1
      subst this;exact(el i d a1).1
    obtain⟨d',h1,rfl⟩:=hvs i x a2;obtain⟨r1,r2,r3⟩:=el i d' h1;refine⟨r2,fun j c hj=>?_⟩;obtain⟨hj1,hj2⟩:=r3 j c hj;have:=hfit i (aH.1 h1).1;refine⟨o9 _ c hj2,?_⟩;simp only [M',aJ,dT];rw [aR (by omega)];exact hj2
  simp only [hu,aZ];exact(h.slot u).keep hle (fun _ _ h=>h) (fun _ _ h=>h) (other _ (by simp [hu]))
theorem Ct.freeze {f:FuncId} {args:List D} {σ:List (List D)} {Q:D->List (List D)->Prop} {es:List D} {Z:List (List D)->Prop} (h:Ct P f args σ Q)(hq:∀r σ',Q r σ'->r= .xs k es/\Z σ'):Ct P f args σ (fun r σ'=>r= .sl false es/\Z σ'):=by
  refine⟨h.1,fun w g vs hs hb ho=>(h.2 w g vs hs hb ho).mono ?_⟩;rintro e w' ⟨r,σ',x,g',rfl,hQ,hb',hf,hk⟩;obtain⟨rfl,hz⟩:=hq r σ' hQ;obtain⟨g2,b1,b2,b3⟩:=hk.freezeX 0 k es rfl;refine⟨_,σ',x,g2,rfl,⟨rfl,hz⟩,b1.trans hb',hf.trans b2,?_⟩;have e:(St.ofRes (.xs k es) σ').set 0 (.d (.sl false es))=St.ofRes (.sl false es) σ':=by
    simp only [St.ofRes,St.set];congr 1;funext u
    match u with
    | 0=>rfl
    | u+1=>rfl
  rwa [e] at b3
end
end Go.Vm
