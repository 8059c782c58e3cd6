import Derived.Lib.AppendZerosOnto
import Derived.Test.YtbdjepeabjangaaGreatVmX8
set_option linter.all false
namespace Go.Vm
open Go
variable {g:Gh}{k:Nat}{o:Oper}{ob:Option (List (List D))}{sets:List (Nat×Slot)}{st:St}{ti:TypeInfo}{tmps z:Array Value}
section
variable {P:Program}
theorem Nj {x:Value} :(D.ofV1 x).s1.cells= [(D.ofV1 x).s1]:=by
 unfold D.ofV1;split <;> rfl
theorem vC (hz:z.size=k)(hk:0<k)(_h1:∀c∈z.toList,c.oneCell'=true):(rI k z).cells=z.toList.map fun x=>(D.ofV1 x).s1:=by
 unfold rI;split
 .rename_i h;subst h;have h0:z[0]?=some z[0]:=aV (by omega);rw [h0];have e:z.toList= [z[0]]:=by
   apply List.ext_getElem
   .simpa using hz
   intro i a b;have:i=0:=by simp at b;omega
   subst this;simp
  rw [e];exact Nj
 rfl
theorem Th {x:Value} :(D.ofV1 x).s1.flat=true:=by
 unfold D.ofV1;split <;> rfl
theorem aBb (hz:z.size=k)(hk:0<k)(h1:∀c∈z.toList,c.oneCell'=true):(rI k z).ncells=k/\(rI k z).arr=true:=by
 refine⟨by rw [<- dK,vC hz hk h1];simpa using hz,?_⟩;unfold D.arr;rw [vC hz hk h1];rw [eJ];intro d hd;rw [bY] at hd;obtain⟨x,_,rfl⟩:=hd;exact Th
theorem Hc {n i j:Nat} (hz:z.size=k)(hi:i<n)(hj:j<k):(Builtin.zeroCells z n)[i * k+j]?=z[j]?:=by
 have hlt:i * k+j<n * k:=by
  have:(i+1) * k<=n * k:=eN _ hi;rw [cB] at this;omega
 have hm:(i * k+j) % k=j:=by rw [lN,Nat.mul_add_mod,nL hj]
 subst hz;rw [Builtin.zeroCells,yX,Array.getElem?_range,aR hlt,eT,hm];rw [aV hj,getElem!_pos z j hj]
theorem yO {M:Mem} {bs:List Nat} {n:Nat} (hz:z.size=k)(hk:0<k)(h1:∀c∈z.toList,c.oneCell'=true)(cells:Array Value)(hc:∀o,o<n * k->cells[o]?=(Builtin.zeroCells z n)[o]?):
  (∀(i:Nat) (d:D),(List.replicate n (rI k z))[i]?=some d->d.ncells=k/\d.arr=true)/\
  ∀(i:Nat) (d:D) (j:Nat) (e:D),(List.replicate n (rI k z))[i]?=some d->d.cells[j]?=some e->∃x,cells[i * k+j]?=some x/\R M bs e x:=by
 refine⟨fun i d h=>?_,fun i d j e h h'=>?_⟩
 .have:=lW (aS h);subst this;exact aBb hz hk h1
 have:=lW (aS h);subst this;have hi:=(aH.1 h).1;rw [cW] at hi;rw [vC hz hk h1,bP,cU] at h';obtain⟨x,hx,rfl⟩:=h';have hj:=(aH.1 hx).1;have hjk:j<k:=by rw [<- hz];simpa using hj
 have hlt:i * k+j<n * k:=by
  have:(i+1) * k<=n * k:=eN _ hi;rw [cB] at this;omega
 refine⟨x,?_,(R.ofV1 _ _ x).s1⟩;rw [hc _ hlt,Hc hz hi hjk,<- cQ];exact hx
theorem Pk {alt:Bool} (t:TypeId)(l c:Operand)(hd:dD o st)(ho:o.op= .makeSlice t l c) {obj:List (List D)} (hobj:alt=false->obj=st.obj) 
  (h:Ge P alt o.dst t (st.rdS l) (st.rdS c) obj sets ob):Does P o st (· =st.upd ⟨sets,none,ob⟩):=by
 unfold Ge at h;split at h
 .rename_i d e k by_ z k1 n k2 n' hdst he hl hc;obtain⟨ti,zv,h1,h2,h3,h4,h5,h6,h7,h8⟩:=gW he;obtain⟨⟨rfl,b1,b2,b3,b4⟩,h⟩:=h;refine bE hd fun w g tmps hok=>?_;have e1:ev tmps l= .int k1 n':=by
   have:=hok.rd l;rw [cS hl] at this;exact this.vEq
  have e2:ev tmps c= .int k2 n':=by
   have:=hok.rd c;rw [cS hc] at this;exact this.vEq
  have hrun:=run_make (P:=P) w t e ti zv h1 h2 h3 k1 k2 n' n' b1 (pP _) (by rw [h6];exact b2) (by unfold maxLen at b3;omega);have hcells:madeCells zv.cells (n'.toNat * ti.size)=Builtin.zeroCells z n'.toNat:=by
   rw [h4,h5,<- h7];rfl
  rw [hcells] at hrun;have hrun':(execOp (ev tmps) o).run P w= .ok (.value (.slice (some ⟨w.heap.size,0,none⟩) n'.toNat n'.toNat)) (w.alloc (.cells (Builtin.zeroCells z n'.toNat) e)):=by
   simp [execOp,ho,e1,e2,hrun]
  have hsz:(Builtin.zeroCells z n'.toNat).size=n'.toNat * k:=by rw [size_zeroCells,h7]
  rw [hdst];cases alt with
  | true =>
   simp only [aJ] at h;obtain⟨rfl,rfl⟩:=h;obtain⟨z1,z2⟩:=yO (M:=g.M) (bs:=g.bs) (n:=n'.toNat) h7 h8 b4 (Builtin.zeroCells z n'.toNat) (fun o _=>rfl);obtain⟨g',q1,q2,q3⟩:=hok.freshX d e k n'.toNat (List.replicate n'.toNat (rI k z)) (Builtin.zeroCells z n'.toNat) h8 (by simp) (by omega) hsz
    (fun o c ho=>b4 c (jC (by rw [<- cQ] at ho;exact aS ho) (by omega))) z1 z2
   rw [cW] at q3;exact⟨_,_,g',_,.inl hrun',rfl,q2,q3,rfl,by rw [q1];simp⟩
  | false =>
   simp only [fL,aZ] at h;obtain⟨rfl,rfl⟩:=h;have hobj:=hobj rfl;subst hobj;obtain⟨q1,q2⟩:=hok.newObj (gN z n'.toNat) (Builtin.zeroCells z n'.toNat) e (by rw [hsz,gX h7]) (fun i d x a1 a2=>by
    obtain⟨rfl,hx⟩:=yY (M:=g.M) (bs:=g.bs) (by omega) _ i d x a1 (by simpa using a2);exact⟨R.ofV1 _ _ _,Bd x,b4 x hx⟩)
   refine⟨_,_,_,_,.inl hrun',rfl,q2,q1.set d _ _ (bC (.slo _ _ _ _ _ (fun _=>⟨w.heap.size,?_,rfl⟩) (bD _) (by omega)) rfl d),rfl,by simp⟩;rw [<- hok.ol];simp
 exact h.elim
theorem Uq (t:TypeId)(x:Operand)(hd:dD o st)(ho:o.op= .call { callee:= .builtin .cap,args:=#[x],argTypes:=#[t] }) 
  (h:Sh P o.dst t (st.rdS x) sets ob):Does P o st (· =st.upd ⟨sets,none,ob⟩):=by
 unfold Sh at h;split at h
 .rename_i d m a len cap hdst hx;obtain⟨⟨e,ht2⟩,rfl,rfl⟩:=h;refine bL hd (.d (.int cap)) (fun w g tmps hok=>?_) (by rw [hdst];rfl);have hr:=hok.rd x;rw [cS hx] at hr;generalize hv:ev tmps x=v at hr;cases hr with
  | slo _ _ _ _ y hb hc hm=>exact⟨.int .i64 cap,by simp [execOp,ho,resolve,invoke,builtin,Builtin.cap_,hv,run_underlying ht2,goInt],bC (.v _ rfl) rfl⟩
 .rename_i d hdst hx;obtain⟨⟨e,ht2⟩,rfl,rfl⟩:=h;refine bL hd (.d (.int 0)) (fun w g tmps hok=>?_) (by rw [hdst];rfl);have hr:=hok.rd x;rw [cS hx] at hr;have hv:=hr.vEq;exact⟨.int .i64 0,by simp [execOp,ho,resolve,invoke,builtin,Builtin.cap_,hv,run_underlying ht2,goInt],bC (.v _ rfl) rfl⟩
 exact h.elim
theorem Wr (t:TypeId)(x:Operand)(hd:dD o st)(ho:o.op= .call { callee:= .builtin .len,args:=#[x],argTypes:=#[t] }) 
  (h:Wd P o.dst t (st.rdS x) sets ob):Does P o st (· =st.upd ⟨sets,none,ob⟩):=by
 unfold Wd at h;split at h
 .rename_i d hdst hx;obtain⟨⟨e,ht⟩,rfl,rfl⟩:=h;refine bL hd (.d (.int 0)) (fun w g tmps hok=>?_) (by rw [hdst];rfl);have hr:=hok.rd x;rw [cS hx] at hr;have hv:=hr.vEq;exact⟨.int .i64 0,by simp [execOp,ho,resolve,invoke,builtin,Builtin.len_,hv,run_underlying ht,goInt],bC (.v _ rfl) rfl⟩
 exact h.elim
theorem wK {w:World} (hok:Ok w g st (bQ tmps)) (hk:0<k) {x:Operand} {xs:List D} (hs:Sm st.obj k (st.rdS x) xs)(hxs:∀y∈xs,y.ncells=k/\y.arr=true):Sb w g k xs (ev tmps x):=by
 unfold Sm at hs;split at hs
 .rename_i m a len cap hx;obtain⟨hl,cs,hcs,hpre⟩:=hs;have hr:=hok.rd x;rw [cS hx] at hr;generalize ev tmps x=v at hr;cases hr with
  | slo _ _ _ _ xa hb hc hm =>
   refine⟨fun h=>?_,fun h=>?_⟩
   .subst h;simp only [dO] at hl;subst hl;exact⟨_,_,rfl⟩
   have hpos:0<xs.length:=List.length_pos_iff.2 h;obtain⟨b,hb2,rfl⟩:=hb (by omega);have hlen:∀d∈xs,d.cells.length=k:=fun d hd=>by rw [dK];exact(hxs d hd).1
   have hfl:=nF xs hlen;have hple:=hpre.length_le;rw [hfl,dI] at hple;have hkpos:0<xs.length * k:=lU hpos hk;have hne:cs≠ []:=by
    intro e;subst e;simp at hple;omega
   obtain⟨cur,E,o1,o2,o3,o4,o5⟩:=(hok.obj m b cs hb2 hcs).resolve_left hne;have hget:∀(o:Nat) (c:Value),(cur.extract a cur.size)[o]?=some c->cur[a+o]?=some c:=fun o c h=>by
    rw [qA] at h;split at h
    .exact h
    cases h
   have hsz:(cur.extract a cur.size).size=cs.length - a:=by rw [Array.size_extract,o2];omega
   have hel:∀(i:Nat) (d:D),xs[i]?=some d->R g.M g.bs d (De (cur.extract a cur.size) k i d)/\(De (cur.extract a cur.size) k i d).cells.size=k/\∀(j:Nat) (c:Value),(De (cur.extract a cur.size) k i d).cells[j]?=some c->j<k/\(cur.extract a cur.size)[i * k+j]?=some c:=fun i d hi=>by
    have hmem:=aS hi;have hil:=(aH.1 hi).1;have hfit:i * k+k<=xs.length * k:=by
     have:(i+1) * k<=xs.length * k:=eN _ hil
     rwa [cB,Nat.one_mul] at this
    refine Oe (hxs d hmem).1 (hxs d hmem).2 (by rw [hsz];omega) (fun o c ho=>?_) (fun j e hj=>?_) hk
    .have h2:=hget o c ho;have hlt:=(cZ.1 h2).1;rw [o2] at hlt;exact(o5 _ _ c (aN hlt) h2).2.2
    have hcell:=wT hk xs hlen hi hj;obtain⟨rest,hrest⟩:=hpre;have hcc:cs[a+(i * k+j)]?=some e:=by
     rw [<- jG,<- hrest,aU (by exact(aH.1 hcell).1)];exact hcell
    have hlt:=(aH.1 hcc).1;rw [<- o2] at hlt;have hx2:(cur.extract a cur.size)[i * k+j]?=some cur[a+(i * k+j)]:=by
     rw [qA,aR (by omega),aV hlt]
    exact⟨_,hx2,(o5 _ e _ hcc (aV hlt)).1⟩
   have hone:∀(o:Nat) (c:Value),(cur.extract a cur.size)[o]?=some c->c.oneCell'=true:=fun o c ho=>by
    have h2:=hget o c ho;have hlt:=(cZ.1 h2).1;rw [o2] at hlt;exact(o5 _ _ c (aN hlt) h2).2.2
   refine⟨b,a,cap,(List.range xs.length).map fun i=>De (cur.extract a cur.size) k i (xs.getD i .any),by rw [hl],by simp,fun i d y h1 h2=>?_,fun y hy=>?_,fun j c hj=>?_⟩
   .have hil:=(aH.1 h1).1;rw [bP,oA hil,eT,aP] at h2;subst h2;rw [kW,h1];exact(hel i d h1).1
   .rw [bY] at hy;obtain⟨i,hi,rfl⟩:=hy;have hil:=fO.1 hi;have h1:=aN hil;rw [kW,h1];refine⟨(hel i _ h1).2.1,fun c hc=>?_⟩;obtain⟨j,hj⟩:=dY hc;exact hone _ c ((hel i _ h1).2.2 j c (by simpa using hj)).2
   rw [sK hk _ (fun y hy=>by
    rw [bY] at hy;obtain⟨i,hi,rfl⟩:=hy;have hil:=fO.1 hi;have h1:=aN hil;rw [kW,h1];exact(hel i _ h1).2.1),jE] at hj
   obtain⟨y,h1,h2⟩:=hj;have hil:=(aH.1 h1).1;simp only [cC,List.length_range] at hil;rw [bP,oA hil,eT,aP] at h1;subst h1;have h3:=aN hil;rw [kW,h3] at h2;have:=((hel _ _ h3).2.2 _ c h2).2;rw [show j / k * k+j % k=j by rw [lN];exact sZ j k] at this;rw [Addr.add_none,cell_of_row w b (a+j) cur E (0,0) o1];exact hget _ _ this
 .rename_i es ow hx;subst hs;have hr:=hok.rd x;rw [cS hx] at hr;exact wV hok hr fun d hd=>(hxs d hd).1
 exact hs.elim
theorem xU {t t2 e:TypeId} {zv:Value} (h1:P.underlying t=some (.slice e))(h2:P.info? e=some ti)(h3:ti.zero=some zv)(ht2:P.underlying t2=some (.int .i64))(kk:IntKind)(n:Nat)(ty:TypeId)(w:World)(h0:0<n)(hsz:0<ti.size)
  (h63:(n:Int)<=9223372036854775807) (h48:n * ti.bytes<=140737488355328):
  (Builtin.append_ #[t,t2] ty #[.slice none 0 0,.int kk n]).run P w=
   .ok (.slice (some ⟨w.heap.size,0,none⟩) n (grownCap w n 0 e)) (w.drew.alloc (.cells (Builtin.zeroCells zv.cells n++Builtin.zeroCells zv.cells (grownCap w n 0 e - n)) e)):=by
 have hn:n≠0:=by omega
 have h63':¬(9223372036854775807<(n:Int)):=by omega
 have h48':¬(281474976710656<Builtin.nextslicecap n 0 * ti.bytes):=by rw [nextslicecap_zero h0];omega
 have hw:IntKind.wrap .i64 (n:Int)=n:=pB (by constructor <;> simp [IntKind.min,IntKind.max,IntKind.signed,IntKind.bits] <;> omega);have hnn:¬((n:Int)<0):=by omega
 have hbb:¬(281474976710656<(n:Int) * (ti.bytes:Int)):=by
  have:((n * ti.bytes:Nat):Int)<=140737488355328:=by omega
  rw [yC] at this;omega
 have hnz:¬(n * ti.size=0):=by
  have:=lU h0 hsz;omega
 simp [Builtin.append_,run_underlying h1,run_underlying ht2,sizeOf,typeInfo,zeroValue,h2,h3,hn,h63',h48',asInt,asIntOf,hw,hnn,hbb,hnz,Question.forced,run_firstCells_none,newRow,grownCap]
theorem St.set_set2(st:St)(a d:Nat)(x y z:Slot):((st.set a x).set a y).set d z=(st.set a y).set d z:=by
 simp only [St.set];congr 1;funext u;by_cases hu:u=a <;> simp [hu]
theorem Vf {w:World} (hok:Ok w g st (bQ tmps)) {t t2 e:TypeId} {by_:Nat} {zv:Value} (h1:P.underlying t=some (.slice e))(h2:P.info? e=some ti)(h3:ti.zero=some zv)(h4:zv.cells=z)(h5:ti.size=k)(h6:ti.bytes=by_)(h7:z.size=k)(h8:0<k)
  (hz:∀c∈z.toList,c.oneCell'=true) (ht2:P.underlying t2=some (.int .i64)) (ts d:Nat) (xs:List D) (len cap:Nat) (a:Option Addr) (hv:bQ tmps ts= .slice a len cap) (hlen:xs.length=len) (hsrc:Sb w g k xs (.slice a len cap)) (hxs:∀y∈xs,y.ncells=k/\y.arr=true)
  (n:Nat) (h0:0<n) (hg:cap<len+n) (hb:(len+n) * by_<=140737488355328) (hm:len+n<=maxLen) (kk:IntKind) (ty:TypeId):
  ∃v w' g',(Builtin.append_ #[t,t2] ty #[.slice a len cap,.int kk n]).run P w= .ok v w'/\g'.bl=g.bl/\Fr w g w' g'/\Ok w' g' ((st.set ts .any).set d (.d (.xs k (xs++List.replicate n (rI k z))))) (fun u=>if u=d then v else bQ tmps u):=by
 subst hlen;obtain⟨olds,a1,hold,a2,a4⟩:∃olds:List Value,olds.length=xs.length * k/\(Builtin.firstCells ti.size xs.length (.slice a xs.length cap)).run P w.drew= .ok olds.toArray w.drew/\(∀c∈olds,c.oneCell'=true)/\
   (∀(i:Nat) (d:D) (j:Nat) (e:D),xs[i]?=some d->d.cells[j]?=some e->∃x,olds[i * k+j]?=some x/\R g.M g.bs e x):=by
  by_cases hx0:xs= []
  .subst hx0;refine⟨[],by simp,?_,fun c h=>by simp at h,fun i d j e h=>by simp at h⟩;cases a with
   | none=>simp [Builtin.firstCells]
   | some a=>simp [Builtin.firstCells,loadCells,loadCellsFrom]
  obtain⟨bx,offx,capx,vvx,e1,l1,l5,l6,l7⟩:=hsrc.2 hx0;simp only [Value.slice.injEq] at e1;obtain⟨rfl,_,rfl⟩:=e1;have hxsz:∀v∈vvx,v.cells.size=k:=fun v hv=>(l6 v hv).1;have hnl:(vvx.flatMap fun v=>v.cells.toList).length=xs.length * k:=by rw [jO vvx hxsz,l1]
  refine⟨vvx.flatMap fun v=>v.cells.toList,hnl,?_,?_,?_⟩
  .exact run_firstCells_some (P:=P) w.drew ti.size xs.length ⟨bx,offx,none⟩ xs.length cap _ (by rw [hnl,h5]) (fun j u hj=>l7 j u hj)
  .intro u hu;rw [sX] at hu;obtain⟨v,hv,hu⟩:=hu;exact(l6 v hv).2 u hu
  intro i x j y b1 b2;have hi:i<vvx.length:=by rw [l1];exact(aH.1 b1).1
  have hvi:vvx[i]?=some vvx[i]:=aN hi;have hRx:=l5 i x _ b1 hvi;have hmem:=aS b1;have hsz:=hxsz _ (aS hvi);have hj:j<vvx[i].cells.size:=by
   rw [hsz,<- (hxs x hmem).1,<- dK];exact(aH.1 b2).1
  refine⟨_,tT h8 vvx hxsz hvi (aV hj),?_⟩;by_cases hany:x= .any
  .subst hany;have:y= .any:=by
    match j with
    | 0=>simpa [D.cells] using b2.symm
    | j+1=>simp [D.cells] at b2
   rw [this];exact .any _
  have hnt':∀cs,x≠ .tup cs:=by
   rintro cs rfl;have:=(hxs _ hmem).2;simp [D.arr,D.cells,D.flat] at this
  exact(hRx.each hany hnt' j y _ b2 (aV hj)).1
 have hfit:=growslice_fits (old:=cap) (by omega:cap<xs.length+n) (by rw [<- h6] at hb;exact hb);have h48:n * ti.bytes<=281474976710656:=by
  rw [h6];have:n * by_<=(xs.length+n) * by_:=eN _ (by omega);omega
 have hrun:=Lib.run_append_grow_zeros (P:=P) w t t2 ty e ti zv kk .i64 h1 ht2 h2 h3 a xs.length cap olds hold n h0 (by omega) hg (by unfold maxLen at hm;omega) h48 hfit;rw [h4] at hrun;have hge:=grownCap_ge w (xs.length+n) cap e;have hcm:grownCap w (xs.length+n) cap e<=maxLen:=grownCap_le_maxLen w (xs.length+n) cap e hm;obtain⟨zz1,zz2⟩:=yO (M:=g.M) (bs:=g.bs) (n:=n) h7 h8 hz (Builtin.zeroCells z n) (fun o ho=>rfl);obtain⟨g',q1,q2,q3⟩:=(hok.forget ts).drew.freshX d e k (grownCap w (xs.length+n) cap e) (xs++List.replicate n (rI k z)) (olds.toArray++Builtin.zeroCells z n++Builtin.zeroCells z (grownCap w (xs.length+n) cap e - (xs.length+n))) h8 (by simpa using hge) hcm
  (by
   simp only [pZ,eK,size_zeroCells,h7,a1,<- cB];congr 1;omega)
  (fun o c ho=>by
   have hmem:c∈(olds.toArray++Builtin.zeroCells z n++Builtin.zeroCells z (grownCap w (xs.length+n) cap e - (xs.length+n))).toList:=by
    rw [<- cQ] at ho;exact aS ho
   rw [iB,iB] at hmem;rcases dZ.1 hmem with h | h
   .rcases dZ.1 h with h | h
    .exact a2 c (by simpa using h)
    exact hz c (jC h (by omega))
   exact hz c (jC h (by omega)))
  (fun i d c1=>by
   by_cases hi:i<xs.length
   .rw [aU hi] at c1;exact hxs d (aS c1)
   rw [bI (by omega)] at c1;exact zz1 _ d c1)
  (fun i d j y c1 c2=>by
   rw [<- cQ,iB,iB];by_cases hi:i<xs.length
   .rw [aU hi] at c1;obtain⟨x,x1,x2⟩:=a4 i d j y c1 c2;refine⟨x,?_,x2⟩;have hlt:i * k+j<olds.length:=(aH.1 x1).1;rw [bN,aU (by simpa using hlt)];simpa using x1
   rw [bI (by omega)] at c1;obtain⟨x,x1,x2⟩:=zz2 _ d j y c1 c2;refine⟨x,?_,x2⟩;have hlt:(i - xs.length) * k+j<(Builtin.zeroCells z n).size:=(cZ.1 x1).1;have hsub:i * k=xs.length * k+(i - xs.length) * k:=by rw [<- cB];congr 1;omega
   rw [bN,bI (by simp only [a1];omega),aU (by simp only [a1] at *;simpa using(by omega:i * k+j - xs.length * k<(Builtin.zeroCells z n).size))];have:i * k+j - xs.length * k=(i - xs.length) * k+j:=by omega
   simp only [a1];rw [this,cQ];exact x1)
 simp only [aX,cW] at q3;exact⟨_,_,g',hrun,q1,(Fr.drew w g).trans q2,q3⟩
theorem It (t t2:TypeId)(s x:Operand)(hd:dD o st)(ho:o.op= .call { callee:= .builtin .append,args:=#[s,x],argTypes:=#[t,t2] }) 
  (h:sT P o.dst t t2 s (st.rdS s) (st.rdS x) st.obj sets ob):Does P o st (· =st.upd ⟨sets,none,ob⟩):=by
 unfold sT at h;split at h
 .rename_i d e k by_ z ts hdst he;obtain⟨ti,zv,h1,h2,h3,h4,h5,h6,h7,h8⟩:=gW he;split at h
  .rename_i kk n hx;split at h
   .rename_i hs;have hs:st.env ts= .d .nilS:=hs;obtain⟨⟨ht2,b0,b1,b2,hne,hz⟩,rfl,rfl⟩:=h;rw [qM];refine bE hd fun w g tmps hok=>?_;have hx':ev tmps x= .int kk n:=by
     have:=hok.rd x;rw [cS hx] at this;exact this.vEq
    have hv:ev tmps (.tmp ts)= .slice none 0 0:=by
     have:=hok.slot ts;rw [hs] at this;exact this.1.vEq
    rw [hdst];by_cases hn0:n=0
    .subst hn0;have hw0:IntKind.wrap .i64 0=0:=pB (by constructor <;> simp [IntKind.min,IntKind.max,IntKind.signed,IntKind.bits]);refine⟨.slice none 0 0,w,g,_,.inl ?_,rfl,Fr.refl w g,?_,rfl,by simp⟩
     .simp [execOp,ho,resolve,invoke,builtin,Builtin.append_,run_underlying h1,run_underlying ht2,bH h2,hx',hv,asInt,asIntOf,hw0,typeInfo,h2]
     exact(hok.forget ts).set d _ _ ⟨.xs _ [] none 0 0 rfl (bD _) (cH _) (fun _=>⟨rfl,rfl⟩),.xs _ _ _ _ (.inl ⟨rfl,none,rfl⟩)⟩
    obtain⟨m,rfl⟩:∃m:Nat,n=m:=⟨n.toNat,by omega⟩;have hm0:0<m:=by omega
    have hml:m<=maxLen:=by omega
    have hmb:m * ti.bytes<=140737488355328:=by
     have:((m * ti.bytes:Nat):Int)<=140737488355328:=by rw [yC,h6];exact b1
     omega
    have hrun:=xU (P:=P) h1 h2 h3 ht2 kk m o.type w hm0 (by omega) (by unfold maxLen at hml;omega) hmb;have hge:=grownCap_ge w m 0 e;have hcm:grownCap w m 0 e<=maxLen:=grownCap_le_maxLen w m 0 e hml;rw [h4] at hrun;obtain⟨z1,z2⟩:=yO (M:=g.M) (bs:=g.bs) (n:=m) h7 h8 hz (Builtin.zeroCells z m++Builtin.zeroCells z (grownCap w m 0 e - m)) (fun o ho=>by
     rw [uB (by rw [size_zeroCells,h7];exact ho)])
    obtain⟨g',q1,q2,q3⟩:=(hok.forget ts).drew.freshX d e k (grownCap w m 0 e) (List.replicate m (rI k z)) (Builtin.zeroCells z m++Builtin.zeroCells z (grownCap w m 0 e - m)) h8 (by simpa using hge) hcm
     (by rw [pZ,size_zeroCells,size_zeroCells,h7,<- cB];congr 1;omega)
     (fun o c ho=>by
      have hmem:c∈(Builtin.zeroCells z m++Builtin.zeroCells z (grownCap w m 0 e - m)).toList:=by
       rw [<- cQ] at ho;exact aS ho
      rw [iB] at hmem;rcases dZ.1 hmem with h | h <;> exact hz c (jC h (by omega)))
     z1 z2
    rw [cW] at q3;refine⟨.slice (some ⟨w.heap.size,0,none⟩) m (grownCap w m 0 e),_,g',_,.inl ?_,rfl,(Fr.drew w g).trans q2,q3,rfl,by rw [q1];simp⟩;simp [execOp,ho,resolve,invoke,builtin,hx',hv,hrun]
   .rename_i m a len cap hs;obtain⟨xs,⟨ht2,hsrc,hxs,b0,hg,b1,b2,hne,hz⟩,rfl,rfl⟩:=h;rw [qM];refine bE hd fun w g tmps hok=>?_;have hx':ev tmps x= .int kk n:=by
     have:=hok.rd x;rw [cS hx] at this;exact this.vEq
    have hso:=wK hok (x:= .tmp ts) h8 hsrc hxs;have hlen:xs.length=len:=by
     have e1:=hsrc;rw [hs] at e1;exact e1.1
    have hr:=hok.rd (.tmp ts);rw [cS hs] at hr;generalize hv:ev tmps (.tmp ts)=v at hr hso;cases hr with
    | slo _ _ _ _ xa hb hc hm=>
    obtain⟨n',rfl⟩:∃n':Nat,n=n':=⟨n.toNat,by omega⟩;have hbb:(len+n') * by_<=140737488355328:=by
     have h9:=b1;rw [<- Int.natCast_add,<- yC] at h9;omega
    obtain⟨v,w',g',r1,r2,r3,r4⟩:=Vf hok h1 h2 h3 h4 h5 h6 h7 h8 hz ht2 ts d xs len cap xa hv hlen hso hxs n' (by omega) (by omega) hbb (by omega) kk o.type;refine⟨v,w',g',_,.inl ?_,rfl,r3,by rw [hdst];exact r4,rfl,by rw [r2];simp⟩;simp [execOp,ho,resolve,invoke,builtin,hx',hv,r1]
   exact h.elim
  obtain⟨xs,⟨⟨e2,ht2⟩,hsrc,hxs,hne,hz⟩,h⟩:=h;have hrun:∀(tmps:Array Value) (w w':World) (v:Value),(Builtin.append_ #[t,t] o.type #[bQ tmps ts,ev tmps x]).run P w= .ok v w'->(execOp (ev tmps) o).run P w= .ok (.value v) w':=by
   intro tmps w w' v hr;rw [<- qR (ty:=o.type) h1 ht2] at hr;have:bQ tmps ts=ev tmps (.tmp ts):=rfl;rw [this] at hr;simp [execOp,ho,resolve,invoke,builtin,hr]
  split at h
  .rename_i k' es hs;obtain⟨⟨rfl,hb,hm⟩,rfl,rfl⟩:=h;rw [qM];refine bE hd fun w g tmps hok=>?_;obtain⟨v,w',g',r1,r2,r3,r4⟩:=gT hok h1 h2 h3 h5 h6 (by rw [h4];exact h7) h8 (by rw [h4];exact hz) ts d hne es xs _ hs (.inl rfl) (ev tmps x) (wK hok h8 hsrc hxs) hb hm hxs o.type;exact⟨v,w',g',_,.inl (hrun tmps w w' v r1),rfl,r3,by rw [hdst];exact r4,rfl,by rw [r2];simp⟩
  .rename_i hs;have hs:st.env ts= .d .nilS:=hs;obtain⟨⟨hb,hm⟩,rfl,rfl⟩:=h;rw [qM];refine bE hd fun w g tmps hok=>?_;have hv:bQ tmps ts= .slice none 0 0:=by
    have:=hok.slot ts;rw [hs] at this;exact this.1.vEq
   have hok2:=hok.set ts (.d (.sl true [])) (bQ tmps ts) ⟨by rw [hv];exact .nil _,by rw [hv];exact .sl _ _ _ (.inl ⟨_,_,rfl⟩)⟩;have efun:(fun u=>if u=ts then bQ tmps ts else bQ tmps u)=bQ tmps:=by
    funext u;by_cases hu:u=ts <;> simp [hu]
   rw [efun] at hok2;obtain⟨v,w',g',r1,r2,r3,r4⟩:=gT hok2 h1 h2 h3 h5 h6 (by rw [h4];exact h7) h8 (by rw [h4];exact hz) ts d hne [] xs _ (by simp [St.set]) (.inr (.inl ⟨rfl,rfl⟩)) (ev tmps x) (wK hok h8 hsrc hxs) (by simpa using hb) (by simpa using hm) hxs o.type;rw [St.set_set2] at r4;exact⟨v,w',g',_,.inl (hrun tmps w w' v r1),rfl,r3,by rw [hdst];exact r4,rfl,by rw [r2];simp⟩
  .rename_i hs;obtain⟨⟨hb,hm⟩,rfl,rfl⟩:=h;rw [qM];refine bE hd fun w g tmps hok=>?_;obtain⟨v,w',g',r1,r2,r3,r4⟩:=gT hok h1 h2 h3 h5 h6 (by rw [h4];exact h7) h8 (by rw [h4];exact hz) ts d hne [] xs _ hs (.inr (.inl ⟨rfl,rfl⟩)) (ev tmps x) (wK hok h8 hsrc hxs) (by simpa using hb) (by simpa using hm) hxs o.type;exact⟨v,w',g',_,.inl (hrun tmps w w' v r1),rfl,r3,by rw [hdst];exact r4,rfl,by rw [r2];simp⟩
  exact h.elim
 exact h.elim
theorem Mz {xs:List D} {vs:List Value} (hk:0<k)(hxs:∀y∈xs,y.ncells=k/\y.arr=true)(l5:∀(i:Nat) (d:D) (x:Value),xs[i]?=some d->vs[i]?=some x->R g.M g.bs d x)
  (l6:∀x:Value,x∈vs->x.cells.size=k/\∀c:Value,c∈x.cells.toList->c.oneCell'=true):∀(o:Nat) (c:D) (u:Value),(xs.flatMap D.cells)[o]?=some c->(vs.flatMap fun v=>v.cells.toList)[o]?=some u->R g.M g.bs c u/\c.flat=true:=by
 intro o c u h1 h2;have hlen:∀d∈xs,d.cells.length=k:=fun d hd=>by rw [dK];exact(hxs d hd).1
 rw [qJ hk xs hlen,jE] at h1;rw [sK hk vs (fun x hx=>(l6 x hx).1),jE] at h2;obtain⟨x,a1,a2⟩:=h1;obtain⟨v,b1,b2⟩:=h2;have hmem:=aS a1;have hflat:c.flat=true:=by
  have:=(hxs x hmem).2;unfold D.arr at this;rw [eJ] at this;exact this c (aS a2)
 refine⟨?_,hflat⟩;have hRx:=l5 _ x v a1 b1;by_cases hany:x= .any
 .subst hany;have:c= .any:=by
   match o % k,a2 with
   | 0,a2=>simpa [D.cells] using a2.symm
   | j+1,a2=>simp [D.cells] at a2
  rw [this];exact .any _
 have hnt':∀cs,x≠ .tup cs:=by
  rintro cs rfl;have:=(hxs _ hmem).2;simp [D.arr,D.cells,D.flat] at this
 exact(hRx.each hany hnt' _ c u a2 (by simpa using b2)).1
theorem mY {α:Type} {l:List α} {m:Nat} {a:α} (h:l[m]?=some a):l.set m a=l:=by
 apply lR;intro i;rw [bS];split
 .rename_i e;subst e;rw [h];simp [(aH.1 h).1]
 rfl
theorem Oi {alt : Bool} (t t2 : TypeId) (y x : Operand) (hd : dD o st) (ho : o.op = .call { callee := .builtin .copy, args := #[y, x], argTypes := #[t, t2] }) 
  (h:Eb P alt o.dst t t2 (st.rdS y) (st.rdS x) st.obj sets ob):Does P o st (· =st.upd ⟨sets,none,ob⟩):=by
 unfold Eb at h;split at h
 .rename_i e k by_ z m a dl dc he hy;obtain⟨ti,zv,h1,h2,h3,h4,h5,h6,h7,h8⟩:=gW he;obtain⟨⟨e2,ht2⟩,h⟩:=h;split at h
  .split at h
   .rename_i m' a' sl' sc' hx;split at h
    .rename_i cs hcs;obtain⟨⟨rfl,rfl,hmin,hne,ha,ha'⟩,rfl,rfl⟩:=h;refine bE hd fun w g tmps hok=>?_;have hr:=hok.rd y;rw [cS hy] at hr;have hr':=hok.rd x;rw [cS hx] at hr';generalize hvy:ev tmps y=vy at hr;generalize hvx:ev tmps x=vx at hr';cases hr with
     | slo _ _ _ _ ya hb hc hm=>
     cases hr' with
     | slo _ _ _ _ xa hb' hc' hm'=>
     obtain⟨b,hb2,rfl⟩:=hb (by omega);obtain⟨b',hb2',rfl⟩:=hb' (by omega);have ebb:b'=b:=by rw [hb2] at hb2';simpa using hb2'.symm
     subst ebb;have hcne:cs≠ []:=by intro e;subst e;simp at ha
     have hml:=(aH.1 hcs).1;obtain⟨cur,E,o1,o2,o3,o4,o5⟩:=(hok.obj m' b' cs hb2 hcs).resolve_left hcne;have hca:cs[a']?=some cs[a']:=aN ha';have hva:cur[a']?=some (cur[a']'(by rw [o2];exact ha')):=aV (by rw [o2];exact ha');generalize hc0:cs[a']=c at hca;generalize hu0:cur[a']'(by rw [o2];exact ha')=u at hva;have hcD:cs.getD a' .any=c:=by rw [kW,hca];rfl
     rw [hcD];obtain⟨c1,c2,c3⟩:=o5 a' c u hca hva
     -- the run
     have hl:=run_loadCells_list (P:=P) w ⟨b',a',none⟩ [u] (fun j v hj=>by
      match j with
      | 0=>
       simp at hj;subst hj;rw [Addr.add_none,cell_of_row w b' (a'+0) cur E (0,0) o1];exact hva
      | j+1=>simp at hj)
     have hst:=run_storeCells_at P b' a E [u] 0 cur w o1 (by simp;omega) (by simpa using c3);simp only [iJ,bU,dO,dT] at hl hst;have hmn:Nat.min sl' dl=1:=hmin;have hrun:(execOp (ev tmps) o).run P w= .ok (.value (.int .i64 1)) (w.setRow b' (cur.toList.take a++ [u]++cur.toList.drop (a+1)).toArray):=by
      simp [execOp,ho,resolve,invoke,builtin,Builtin.copy_,run_underlying h1,bH h2,h5,Builtin.lenOf,Builtin.firstCells,hvy,hvx,hmn,hl,hst,goInt]
     -- the tags
     let ρ:jK->jK:=fun t=>if t.1= .obj m'/\t.2.head?=some a' then(.obj m',a::t.2.tail)else t
     have hρo:∀t:jK,t.1≠ .obj m'->ρ t=t:=fun t ht=>by simp only [ρ,ht,false_and,aZ]
     have hρi:∀(i:Nat) (q:List Nat),i≠a'->ρ (.obj m',i::q)=(.obj m',i::q):=fun i q hi=>by simp [ρ,hi]
     have hρa:∀(q:List Nat),ρ (.obj m',a'::q)=(.obj m',a::q):=fun q=>by simp [ρ]
     have p1:=hok.parkObj m' (cs.set a' c.s1) ρ hρo hml (fun b2 cs2 q1 q2 _=>by
      have e1:b2=b':=by rw [hb2] at q1;simpa using q1.symm
      have e2:cs2=cs:=by rw [hcs] at q2;simpa using q2.symm
      subst e1;subst e2;refine .inr ⟨cur,E,o1,by simpa using o2,by simp [fG,o3,ρ],o4,fun i d v a1 a2=>?_⟩;rw [bS] at a1;split at a1
      .rename_i e;subst e;simp only [ha',aJ,aP] at a1;subst a1;have:v=u:=by rw [hva] at a2;simpa using a2.symm
       subst this;exact⟨c1.s1,Hp c1 c3,c3⟩
      rename_i e;obtain⟨d1,d2,d3⟩:=o5 i d v a1 a2;refine⟨d1,d2.move (fun _ _ _ h=>h) (fun _ _ h=>h) [i] fun b3 q hq=>⟨rfl,fun _ h=>h,?_⟩,d3⟩;simp only [fG,hq,eT,List.singleton_append,hρi i q (fun e'=>e e'.symm)])
     have hmv:Own w g.M g.bs (fG ρ g.X) (.obj m') [a] c u:=c2.move (fun _ _ _ h=>h) (fun _ _ h=>h) [a] fun b3 q hq=>⟨rfl,fun _ h=>h,by simp only [fG,hq,eT,List.singleton_append,hρa q]⟩;have hsz1:(cs.set a' c.s1).length=cs.length:=by simp
     have hg1:(st.obj.set m' (cs.set a' c.s1))[m']?=some (cs.set a' c.s1):=by simp [hml]
     have hne1:cs.set a' c.s1≠ []:=by intro e;rw [e] at hsz1;simp at hsz1;exact hcne (jW hsz1.symm)
     obtain⟨cur2,E2,w1,w2,w3,w4,w5⟩:=(p1.obj m' b' _ hb2 hg1).resolve_left hne1;have ecur:cur2=cur:=by rw [o1] at w1;simp at w1;exact w1.1.symm
     subst ecur;have hsp:∀i:Nat,(cur2.toList.take a++ [u]++cur2.toList.drop (a+1))[i]?=if i<a then cur2.toList[i]? else if i<a+1 then [u][i - a]? else cur2.toList[i]?:=fun i=>eA (ds:= [u]) (by simpa using(by omega:a+1<=cur2.size))
     obtain⟨p2,p3⟩:=p1.writeObj m' b' ((cs.set a' c.s1).set a c) (cur2.toList.take a++ [u]++cur2.toList.drop (a+1)).toArray hb2 (by rw [hg1];simpa using hne1)
      (by
       rw [eK];have:=gA (cs:=cur2.toList) (ds:= [u]) (off:=a) (by simpa using(by omega:a+1<=cur2.size));simp only [bU,dO,dT] at this;rw [this,dR,dR,bF,o2])
      (fun i d v q1 q2=>by
       rw [eO,hsp] at q2;rw [bS] at q1;by_cases e:a=i
       .subst e;simp only [dR,ha,aJ,aP] at q1;subst q1;simp at q2;subst q2;exact⟨c1,hmv,c3⟩
       rw [aG e] at q1;have q3:cur2[i]?=some v:=by
        by_cases c1:i<a
        .simpa [c1] using q2
        have c2:¬i<a+1:=by omega
        simpa [c1,c2] using q2
       exact w5 i d v q1 q3)
     have efin:(st.obj.set m' (cs.set a' c.s1)).set m' ((cs.set a' c.s1).set a c)=st.obj.set m' ((cs.set a c).set a' c.s1):=by
      rw [List.set_set,List.set_comm _ _ (fun e=>hne e.symm)]
     refine⟨.int .i64 1,_,_,_,.inl hrun,rfl,(Fr.ren w g ρ).trans p3,?_,rfl,by simp⟩;simp only [efin] at p2;cases hdst:o.dst with
     | none=>exact p2
     | some d=>exact p2.set d (.d (.int 1)) _ (bC (.v _ rfl) rfl d)
    exact h.elim
   exact h.elim
  obtain⟨xs,cs,⟨hsrc,hxs,hcs,hfit⟩,rfl,rfl⟩:=h;refine bE hd fun w g tmps hok=>?_;have hr:=hok.rd y;rw [cS hy] at hr;generalize hvy:ev tmps y=vy at hr;cases hr with
  | slo _ _ _ _ ya hb hc hm=>
  obtain⟨s1,s2⟩:=wK hok h8 hsrc hxs;have hml:=(aH.1 hcs).1;have hfin:∀(w':World) (g':Gh) (ob:List (List D)) (n:Nat),Ok w' g' { st with obj:=ob } (bQ tmps)->Ok w' g' (st.upd ⟨o.dst.toList.map (fun d=>(d,.d (.int (n:Nat)))),none,some ob⟩) (sJ o.dst (.int .i64 n) (bQ tmps)):=by
   intro w' g' ob n h;cases hdst:o.dst with
   | none=>exact h
   | some d=>exact h.set d (.d (.int n)) _ (bC (.v _ rfl) rfl d)
  by_cases hn:min xs.length dl=0
  .rw [hn];have e1:st.obj.set m (dE cs a ((xs.take 0).flatMap D.cells))=st.obj:=by
    have:dE cs a ((xs.take 0).flatMap D.cells)=cs:=by simp [dE]
    rw [this];exact mY hcs
   rw [e1];have hlx:∃xa len c,ev tmps x= .slice xa len c/\len=xs.length:=by
    by_cases h0:xs= []
    .obtain⟨a,c,e⟩:=s1 h0;exact⟨_,_,_,e,by rw [h0];rfl⟩
    obtain⟨bx,ox,cx,vs,e,_⟩:=s2 h0;exact⟨_,_,_,e,rfl⟩
   obtain⟨xa,len,cx,hvx,rfl⟩:=hlx;have hn':Nat.min xs.length dl=0:=hn;have hfc:(Builtin.firstCells ti.size 0 (.slice xa xs.length cx)).run P w= .ok #[] w:=by
    cases xa with
    | none=>simp [Builtin.firstCells]
    | some a=>simp [Builtin.firstCells,loadCells,loadCellsFrom]
   refine⟨.int .i64 0,w,g,_,.inl ?_,rfl,Fr.refl w g,hfin w g st.obj 0 hok,rfl,by simp⟩;cases ya <;> simp [execOp,ho,resolve,invoke,builtin,Builtin.copy_,run_underlying h1,bH h2,Builtin.lenOf,hvy,hvx,hn',hfc,storeCells,goInt]
  have hx0:xs≠ []:=by intro e;subst e;simp at hn
  obtain⟨bx,ox,cx,vs,hvx,l1,l5,l6,l7⟩:=s2 hx0;obtain⟨b,hb2,rfl⟩:=hb (by omega);have hkpos:0<min xs.length dl * k:=lU (by omega) h8;have hcne:cs≠ []:=by intro e;subst e;simp at hfit;omega
  obtain⟨cur,E,o1,o2,o3,o4,o5⟩:=(hok.obj m b cs hb2 hcs).resolve_left hcne;have hvsz:∀v∈vs,v.cells.size=k:=fun v hv=>(l6 v hv).1;have hlen:∀d∈xs,d.cells.length=k:=fun d hd=>by rw [dK];exact(hxs d hd).1
  generalize hL:(vs.flatMap fun v=>v.cells.toList)=L at l7;have hLl:L.length=xs.length * k:=by rw [<- hL,jO vs hvsz,l1]
  generalize hN:min xs.length dl=N at *;have hNx:N * k<=xs.length * k:=eN _ (by omega);have htl:(L.take (N * k)).length=N * k:=by rw [bB];omega
  have hone:∀v∈L,v.oneCell'=true:=by
   intro u hu;rw [<- hL,sX] at hu;obtain⟨v,hv,hu⟩:=hu;exact(l6 v hv).2 u hu
  have hl:=run_loadCells_list (P:=P) w ⟨bx,ox,none⟩ (L.take (N * k)) (fun j v hj=>by
   rw [dX] at hj;split at hj
   .exact l7 j v hj
   cases hj)
  have hst:=run_storeCells_at P b a E (L.take (N * k)) 0 cur w o1 (by rw [htl,o2];omega) (fun v hv=>hone v (qL hv));rw [htl] at hl hst;simp only [iJ] at hst;have hmn:Nat.min xs.length dl=N:=hN;have e1:a+((xs.take N).flatMap D.cells).length<=cs.length:=by
   rw [nF (k:=k) _ (fun d hd=>hlen d (qL hd)),bB,iA (by omega)];exact hfit
  have eD:((xs.take N).flatMap D.cells).length=N * k:=by
   rw [nF (k:=k) _ (fun d hd=>hlen d (qL hd)),bB,iA (by omega)]
  have e2':a+(L.take (N * k)).length<=cur.toList.length:=by rw [htl,bF,o2];exact hfit
  have hpre:∀(j:Nat) (d:D),((xs.take N).flatMap D.cells)[j]?=some d->(xs.flatMap D.cells)[j]?=some d:=by
   intro j d hj;have:xs.flatMap D.cells=(xs.take N).flatMap D.cells++(xs.drop N).flatMap D.cells:=by rw [<- fN,gL]
   rw [this,aU (by exact(aH.1 hj).1)];exact hj
  obtain⟨k6,k7⟩:=hok.writeObj m b (dE cs a ((xs.take N).flatMap D.cells)) (cur.toList.take a++L.take (N * k)++cur.toList.drop (a+(L.take (N * k)).length)).toArray hb2 (by rw [hcs];simpa using hcne)
   (by rw [eK,gA e2'];unfold dE;rw [gA e1,bF,o2])
   (fun i d v a1 a2=>by
    unfold dE at a1;rw [eA e1,eD] at a1;rw [eO,eA e2',htl] at a2;by_cases c1:i<a
    .simp only [c1,aJ] at a1 a2;exact o5 i d v a1 (by simpa using a2)
    simp only [c1,aZ] at a1 a2;by_cases c2:i<a+N * k
    .simp only [c2,aJ] at a1 a2;have a2':L[i - a]?=some v:=by
      rw [dX] at a2;split at a2
      .exact a2
      cases a2
     have:=Mz h8 hxs l5 l6 (i - a) d v (hpre _ _ a1) (by rw [hL];exact a2');exact⟨this.1,.flat _ _ _ this.2,hone v (aS a2')⟩
    simp only [c2,aZ] at a1 a2;exact o5 i d v a1 (by simpa using a2))
  refine⟨.int .i64 N,_,_,_,.inl ?_,rfl,k7,hfin _ _ _ N k6,rfl,by simp⟩;rw [<- h5] at hl hst htl |-;simp [execOp,ho,resolve,invoke,builtin,Builtin.copy_,run_underlying h1,bH h2,Builtin.lenOf,Builtin.firstCells,hvy,hvx,hmn,hl,hst,goInt,htl]
 exact h.elim
end
end Go.Vm
