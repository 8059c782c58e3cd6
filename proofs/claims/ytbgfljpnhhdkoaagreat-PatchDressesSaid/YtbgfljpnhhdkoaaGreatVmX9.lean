import Derived.Lib.AppendZerosOnto
import Derived.Test.YtbgfljpnhhdkoaaGreatVmX8
set_option linter.all false
namespace Go.Vm
open Go
variable {g:Gh}{k:Nat}{o:Oper}{ob:Option (List (List D))}{sets:List (Nat×Slot)}{st:St}{ti:TypeInfo}{tmps z:Array Value}
section
variable {P:Program}
theorem aA2 {x:Value} :(D.ofV1 x).s1.cells= [(D.ofV1 x).s1]:=by
 unfold D.ofV1;split <;> rfl
theorem Bg (hz:z.size=k)(hk:0<k)(_h1:∀c∈z.toList,c.oneCell'=true):(wD k z).cells=z.toList.map fun x=>(D.ofV1 x).s1:=by
 unfold wD;split
 .rename_i h;subst h;have h0:z[0]?=some z[0]:=bO (by omega);rw [h0];have e:z.toList= [z[0]]:=by
   apply vU
   .simpa using hz
   intro i a b;have:i=0:=by simp at b;omega
   subst this;simp
  rw [e];exact aA2
 rfl
theorem aGz {x:Value} :(D.ofV1 x).s1.flat=true:=by
 unfold D.ofV1;split <;> rfl
theorem aK9 (hz:z.size=k)(hk:0<k)(h1:∀c∈z.toList,c.oneCell'=true):(wD k z).ncells=k/\(wD k z).arr=true:=by
 refine⟨by rw [<- fC,Bg hz hk h1];simpa using hz,?_⟩;unfold D.arr;rw [Bg hz hk h1];rw [gF];intro d hd;rw [aX] at hd;obtain⟨x,_,rfl⟩:=hd;exact aGz
theorem Tb {n i j:Nat} (hz:z.size=k)(hi:i<n)(hj:j<k):(Builtin.zeroCells z n)[i * k+j]?=z[j]?:=by
 have hlt:i * k+j<n * k:=by
  have:(i+1) * k<=n * k:=iG _ hi;rw [dP] at this;omega
 have hm:(i * k+j) % k=j:=by rw [qA,Nat.mul_add_mod,qY hj]
 subst hz;rw [Builtin.zeroCells,Hh,Array.getElem?_range,aI hlt,gL,hm];rw [bO hj,getElem!_pos z j hj]
theorem Gj {M:Mem} {bs:List Nat} {n:Nat} (hz:z.size=k)(hk:0<k)(h1:∀c∈z.toList,c.oneCell'=true)(cells:Array Value)(hc:∀o,o<n * k->cells[o]?=(Builtin.zeroCells z n)[o]?):
  (∀(i:Nat) (d:D),(List.replicate n (wD k z))[i]?=some d->d.ncells=k/\d.arr=true)/\
  ∀(i:Nat) (d:D) (j:Nat) (e:D),(List.replicate n (wD k z))[i]?=some d->d.cells[j]?=some e->∃x,cells[i * k+j]?=some x/\R M bs e x:=by
 refine⟨fun i d h=>?_,fun i d j e h h'=>?_⟩
 .have:=qF (bA h);subst this;exact aK9 hz hk h1
 have:=qF (bA h);subst this;have hi:=(aM.1 h).1;rw [dC] at hi;rw [Bg hz hk h1,bW,dY] at h';obtain⟨x,hx,rfl⟩:=h';have hj:=(aM.1 hx).1;have hjk:j<k:=by rw [<- hz];simpa using hj
 have hlt:i * k+j<n * k:=by
  have:(i+1) * k<=n * k:=iG _ hi;rw [dP] at this;omega
 refine⟨x,?_,(R.ofV1 _ _ x).s1⟩;rw [hc _ hlt,Tb hz hi hjk,<- dZ];exact hx
theorem Zr {alt:Bool} (t:TypeId)(l c:Operand)(hd:eT o st)(ho:o.op= .makeSlice t l c) {obj:List (List D)} (hobj:alt=false->obj=st.obj) 
  (h:Rg P alt o.dst t (st.rdS l) (st.rdS c) obj sets ob):Does P o st (· =st.upd ⟨sets,none,ob⟩):=by
 unfold Rg at h;split at h
 .rename_i d e k by_ z k1 n k2 n' hdst he hl hc;obtain⟨ti,zv,h1,h2,h3,h4,h5,h6,h7,h8⟩:=jV he;obtain⟨⟨rfl,b1,b2,b3,b4⟩,h⟩:=h;refine cC hd fun w g tmps hok=>?_;have e1:ev tmps l= .int k1 n':=by
   have:=hok.rd l;rw [eS hl] at this;exact this.vEq
  have e2:ev tmps c= .int k2 n':=by
   have:=hok.rd c;rw [eS hc] at this;exact this.vEq
  have hrun:=run_make (P:=P) w t e ti zv h1 h2 h3 k1 k2 n' n' b1 (oA _) (by rw [h6];exact b2) (by unfold maxLen at b3;omega);have hcells:madeCells zv.cells (n'.toNat * ti.size)=Builtin.zeroCells z n'.toNat:=by
   rw [h4,h5,<- h7];rfl
  rw [hcells] at hrun;have hrun':(execOp (ev tmps) o).run P w= .ok (.value (.slice (some ⟨w.heap.size,0,none⟩) n'.toNat n'.toNat)) (w.alloc (.cells (Builtin.zeroCells z n'.toNat) e)):=by
   simp [execOp,ho,e1,e2,hrun]
  have hsz:(Builtin.zeroCells z n'.toNat).size=n'.toNat * k:=by rw [size_zeroCells,h7]
  rw [hdst];cases alt with
  | true =>
   simp only [aU] at h;obtain⟨rfl,rfl⟩:=h;obtain⟨z1,z2⟩:=Gj (M:=g.M) (bs:=g.bs) (n:=n'.toNat) h7 h8 b4 (Builtin.zeroCells z n'.toNat) (fun o _=>rfl);obtain⟨g',q1,q2,q3⟩:=hok.freshX d e k n'.toNat (List.replicate n'.toNat (wD k z)) (Builtin.zeroCells z n'.toNat) h8 (by simp) (by omega) hsz
    (fun o c ho=>b4 c (mK (by rw [<- dZ] at ho;exact bA ho) (by omega))) z1 z2
   rw [dC] at q3;exact⟨_,_,g',_,.inl hrun',rfl,q2,q3,rfl,by rw [q1];simp⟩
  | false =>
   simp only [iH,bJ] at h;obtain⟨rfl,rfl⟩:=h;have hobj:=hobj rfl;subst hobj;obtain⟨q1,q2⟩:=hok.newObj (jE z n'.toNat) (Builtin.zeroCells z n'.toNat) e (by rw [hsz,jA h7]) (fun i d x a1 a2=>by
    obtain⟨rfl,hx⟩:=Hm (M:=g.M) (bs:=g.bs) (by omega) _ i d x a1 (by simpa using a2);exact⟨R.ofV1 _ _ _,Jt x,b4 x hx⟩)
   refine⟨_,_,_,_,.inl hrun',rfl,q2,q1.set d _ _ (bV (.slo _ _ _ _ _ (fun _=>⟨w.heap.size,?_,rfl⟩) (aV _) (by omega)) rfl d),rfl,by simp⟩;rw [<- hok.ol];simp
 exact h.elim
theorem aFd (t:TypeId)(x:Operand)(hd:eT o st)(ho:o.op= .call { callee:= .builtin .cap,args:=#[x],argTypes:=#[t] }) 
  (h:aGp P o.dst t (st.rdS x) sets ob):Does P o st (· =st.upd ⟨sets,none,ob⟩):=by
 unfold aGp at h;split at h
 .rename_i d m a len cap hdst hx;obtain⟨⟨e,ht2⟩,rfl,rfl⟩:=h;refine cU hd (.d (.int cap)) (fun w g tmps hok=>?_) (by rw [hdst];rfl);have hr:=hok.rd x;rw [eS hx] at hr;generalize hv:ev tmps x=v at hr;cases hr with
  | slo _ _ _ _ y hb hc hm=>exact⟨.int .i64 cap,by simp [execOp,ho,resolve,invoke,builtin,Builtin.cap_,hv,run_underlying ht2,goInt],bV (.v _ rfl) rfl⟩
 .rename_i d hdst hx;obtain⟨⟨e,ht2⟩,rfl,rfl⟩:=h;refine cU hd (.d (.int 0)) (fun w g tmps hok=>?_) (by rw [hdst];rfl);have hr:=hok.rd x;rw [eS hx] at hr;have hv:=hr.vEq;exact⟨.int .i64 0,by simp [execOp,ho,resolve,invoke,builtin,Builtin.cap_,hv,run_underlying ht2,goInt],bV (.v _ rfl) rfl⟩
 exact h.elim
theorem aGs (t:TypeId)(x:Operand)(hd:eT o st)(ho:o.op= .call { callee:= .builtin .len,args:=#[x],argTypes:=#[t] }) 
  (h:aFa P o.dst t (st.rdS x) sets ob):Does P o st (· =st.upd ⟨sets,none,ob⟩):=by
 unfold aFa at h;split at h
 .rename_i d hdst hx;obtain⟨⟨e,ht⟩,rfl,rfl⟩:=h;refine cU hd (.d (.int 0)) (fun w g tmps hok=>?_) (by rw [hdst];rfl);have hr:=hok.rd x;rw [eS hx] at hr;have hv:=hr.vEq;exact⟨.int .i64 0,by simp [execOp,ho,resolve,invoke,builtin,Builtin.len_,hv,run_underlying ht,goInt],bV (.v _ rfl) rfl⟩
 exact h.elim
theorem Cz {w:World} (hok:Ok w g st (cL tmps)) (hk:0<k) {x:Operand} {xs:List D} (hs:aG5 st.obj k (st.rdS x) xs)(hxs:∀y∈xs,y.ncells=k/\y.arr=true):aBq w g k xs (ev tmps x):=by
 unfold aG5 at hs;split at hs
 .rename_i m a len cap hx;obtain⟨hl,cs,hcs,hpre⟩:=hs;have hr:=hok.rd x;rw [eS hx] at hr;generalize ev tmps x=v at hr;cases hr with
  | slo _ _ _ _ xa hb hc hm =>
   refine⟨fun h=>?_,fun h=>?_⟩
   .subst h;simp only [dF] at hl;subst hl;exact⟨_,_,rfl⟩
   have hpos:0<xs.length:=Fj.2 h;obtain⟨b,hb2,rfl⟩:=hb (by omega);have hlen:∀d∈xs,d.cells.length=k:=fun d hd=>by rw [fC];exact(hxs d hd).1
   have hfl:=sE xs hlen;have hple:=hpre.length_le;rw [hfl,dW] at hple;have hkpos:0<xs.length * k:=qT hpos hk;have hne:cs≠ []:=by
    intro e;subst e;simp at hple;omega
   obtain⟨cur,E,o1,o2,o3,o4,o5⟩:=(hok.obj m b cs hb2 hcs).resolve_left hne;have hget:∀(o:Nat) (c:Value),(cur.extract a cur.size)[o]?=some c->cur[a+o]?=some c:=fun o c h=>by
    rw [vS] at h;split at h
    .exact h
    cases h
   have hsz:(cur.extract a cur.size).size=cs.length - a:=by rw [Array.size_extract,o2];omega
   have hel:∀(i:Nat) (d:D),xs[i]?=some d->R g.M g.bs d (Nu (cur.extract a cur.size) k i d)/\(Nu (cur.extract a cur.size) k i d).cells.size=k/\∀(j:Nat) (c:Value),(Nu (cur.extract a cur.size) k i d).cells[j]?=some c->j<k/\(cur.extract a cur.size)[i * k+j]?=some c:=fun i d hi=>by
    have hmem:=bA hi;have hil:=(aM.1 hi).1;have hfit:i * k+k<=xs.length * k:=by
     have:(i+1) * k<=xs.length * k:=iG _ hil
     rwa [dP,Nat.one_mul] at this
    refine aAa (hxs d hmem).1 (hxs d hmem).2 (by rw [hsz];omega) (fun o c ho=>?_) (fun j e hj=>?_) hk
    .have h2:=hget o c ho;have hlt:=(dO.1 h2).1;rw [o2] at hlt;exact(o5 _ _ c (aQ hlt) h2).2.2
    have hcell:=Cy hk xs hlen hi hj;obtain⟨rest,hrest⟩:=hpre;have hcc:cs[a+(i * k+j)]?=some e:=by
     rw [<- kC,<- hrest,aW (by exact(aM.1 hcell).1)];exact hcell
    have hlt:=(aM.1 hcc).1;rw [<- o2] at hlt;have hx2:(cur.extract a cur.size)[i * k+j]?=some cur[a+(i * k+j)]:=by
     rw [vS,aI (by omega),bO hlt]
    exact⟨_,hx2,(o5 _ e _ hcc (bO hlt)).1⟩
   have hone:∀(o:Nat) (c:Value),(cur.extract a cur.size)[o]?=some c->c.oneCell'=true:=fun o c ho=>by
    have h2:=hget o c ho;have hlt:=(dO.1 h2).1;rw [o2] at hlt;exact(o5 _ _ c (aQ hlt) h2).2.2
   refine⟨b,a,cap,(List.range xs.length).map fun i=>Nu (cur.extract a cur.size) k i (xs.getD i .any),by rw [hl],by simp,fun i d y h1 h2=>?_,fun y hy=>?_,fun j c hj=>?_⟩
   .have hil:=(aM.1 h1).1;rw [bW,pY hil,gL,bC] at h2;subst h2;rw [fA,h1];exact(hel i d h1).1
   .rw [aX] at hy;obtain⟨i,hi,rfl⟩:=hy;have hil:=fH.1 hi;have h1:=aQ hil;rw [fA,h1];refine⟨(hel i _ h1).2.1,fun c hc=>?_⟩;obtain⟨j,hj⟩:=eI hc;exact hone _ c ((hel i _ h1).2.2 j c (by simpa using hj)).2
   rw [yD hk _ (fun y hy=>by
    rw [aX] at hy;obtain⟨i,hi,rfl⟩:=hy;have hil:=fH.1 hi;have h1:=aQ hil;rw [fA,h1];exact(hel i _ h1).2.1),mN] at hj
   obtain⟨y,h1,h2⟩:=hj;have hil:=(aM.1 h1).1;simp only [bI,List.length_range] at hil;rw [bW,pY hil,gL,bC] at h1;subst h1;have h3:=aQ hil;rw [fA,h3] at h2;have:=((hel _ _ h3).2.2 _ c h2).2;rw [show j / k * k+j % k=j by rw [qA];exact zY j k] at this;rw [Addr.add_none,cell_of_row w b (a+j) cur E (0,0) o1];exact hget _ _ this
 .rename_i es ow hx;subst hs;have hr:=hok.rd x;rw [eS hx] at hr;exact Dk hok hr fun d hd=>(hxs d hd).1
 exact hs.elim
theorem Gw {t t2 e:TypeId} {zv:Value} (h1:P.underlying t=some (.slice e))(h2:P.info? e=some ti)(h3:ti.zero=some zv)(ht2:P.underlying t2=some (.int .i64))(kk:IntKind)(n:Nat)(ty:TypeId)(w:World)(h0:0<n)(hsz:0<ti.size)
  (h63:(n:Int)<=9223372036854775807) (h48:n * ti.bytes<=140737488355328):
  (Builtin.append_ #[t,t2] ty #[.slice none 0 0,.int kk n]).run P w=
   .ok (.slice (some ⟨w.heap.size,0,none⟩) n (grownCap w n 0 e)) (w.drew.alloc (.cells (Builtin.zeroCells zv.cells n++Builtin.zeroCells zv.cells (grownCap w n 0 e - n)) e)):=by
 have hn:n≠0:=by omega
 have h63':¬(9223372036854775807<(n:Int)):=by omega
 have h48':¬(281474976710656<Builtin.nextslicecap n 0 * ti.bytes):=by rw [nextslicecap_zero h0];omega
 have hw:IntKind.wrap .i64 (n:Int)=n:=sA (by constructor <;> simp [IntKind.min,IntKind.max,IntKind.signed,IntKind.bits] <;> omega);have hnn:¬((n:Int)<0):=by omega
 have hbb:¬(281474976710656<(n:Int) * (ti.bytes:Int)):=by
  have:((n * ti.bytes:Nat):Int)<=140737488355328:=by omega
  rw [Gl] at this;omega
 have hnz:¬(n * ti.size=0):=by
  have:=qT h0 hsz;omega
 simp [Builtin.append_,run_underlying h1,run_underlying ht2,sizeOf,typeInfo,zeroValue,h2,h3,hn,h63',h48',asInt,asIntOf,hw,hnn,hbb,hnz,Question.forced,run_firstCells_none,newRow,grownCap]
theorem St.set_set2(st:St)(a d:Nat)(x y z:Slot):((st.set a x).set a y).set d z=(st.set a y).set d z:=by
 simp only [St.set];congr 1;funext u;by_cases hu:u=a <;> simp [hu]
theorem aDy {w:World} (hok:Ok w g st (cL tmps)) {t t2 e:TypeId} {by_:Nat} {zv:Value} (h1:P.underlying t=some (.slice e))(h2:P.info? e=some ti)(h3:ti.zero=some zv)(h4:zv.cells=z)(h5:ti.size=k)(h6:ti.bytes=by_)(h7:z.size=k)(h8:0<k)
  (hz:∀c∈z.toList,c.oneCell'=true) (ht2:P.underlying t2=some (.int .i64)) (ts d:Nat) (xs:List D) (len cap:Nat) (a:Option Addr) (hv:cL tmps ts= .slice a len cap) (hlen:xs.length=len) (hsrc:aBq w g k xs (.slice a len cap)) (hxs:∀y∈xs,y.ncells=k/\y.arr=true)
  (n:Nat) (h0:0<n) (hg:cap<len+n) (hb:(len+n) * by_<=140737488355328) (hm:len+n<=maxLen) (kk:IntKind) (ty:TypeId):
  ∃v w' g',(Builtin.append_ #[t,t2] ty #[.slice a len cap,.int kk n]).run P w= .ok v w'/\g'.bl=g.bl/\Fr w g w' g'/\Ok w' g' ((st.set ts .any).set d (.d (.xs k (xs++List.replicate n (wD k z))))) (fun u=>if u=d then v else cL tmps u):=by
 subst hlen;obtain⟨olds,a1,hold,a2,a4⟩:∃olds:List Value,olds.length=xs.length * k/\(Builtin.firstCells ti.size xs.length (.slice a xs.length cap)).run P w.drew= .ok olds.toArray w.drew/\(∀c∈olds,c.oneCell'=true)/\
   (∀(i:Nat) (d:D) (j:Nat) (e:D),xs[i]?=some d->d.cells[j]?=some e->∃x,olds[i * k+j]?=some x/\R g.M g.bs e x):=by
  by_cases hx0:xs= []
  .subst hx0;refine⟨[],by simp,?_,fun c h=>by simp at h,fun i d j e h=>by simp at h⟩;cases a with
   | none=>simp [Builtin.firstCells]
   | some a=>simp [Builtin.firstCells,loadCells,loadCellsFrom]
  obtain⟨bx,offx,capx,vvx,e1,l1,l5,l6,l7⟩:=hsrc.2 hx0;simp only [Value.slice.injEq] at e1;obtain⟨rfl,_,rfl⟩:=e1;have hxsz:∀v∈vvx,v.cells.size=k:=fun v hv=>(l6 v hv).1;have hnl:(vvx.flatMap fun v=>v.cells.toList).length=xs.length * k:=by rw [nM vvx hxsz,l1]
  refine⟨vvx.flatMap fun v=>v.cells.toList,hnl,?_,?_,?_⟩
  .exact run_firstCells_some (P:=P) w.drew ti.size xs.length ⟨bx,offx,none⟩ xs.length cap _ (by rw [hnl,h5]) (fun j u hj=>l7 j u hj)
  .intro u hu;rw [kQ] at hu;obtain⟨v,hv,hu⟩:=hu;exact(l6 v hv).2 u hu
  intro i x j y b1 b2;have hi:i<vvx.length:=by rw [l1];exact(aM.1 b1).1
  have hvi:vvx[i]?=some vvx[i]:=aQ hi;have hRx:=l5 i x _ b1 hvi;have hmem:=bA b1;have hsz:=hxsz _ (bA hvi);have hj:j<vvx[i].cells.size:=by
   rw [hsz,<- (hxs x hmem).1,<- fC];exact(aM.1 b2).1
  refine⟨_,Am h8 vvx hxsz hvi (bO hj),?_⟩;by_cases hany:x= .any
  .subst hany;have:y= .any:=by
    match j with
    | 0=>simpa [D.cells] using b2.symm
    | j+1=>simp [D.cells] at b2
   rw [this];exact .any _
  have hnt':∀cs,x≠ .tup cs:=by
   rintro cs rfl;have:=(hxs _ hmem).2;simp [D.arr,D.cells,D.flat] at this
  exact(hRx.each hany hnt' j y _ b2 (bO hj)).1
 have hfit:=growslice_fits (old:=cap) (by omega:cap<xs.length+n) (by rw [<- h6] at hb;exact hb);have h48:n * ti.bytes<=281474976710656:=by
  rw [h6];have:n * by_<=(xs.length+n) * by_:=iG _ (by omega);omega
 have hrun:=Lib.run_append_grow_zeros (P:=P) w t t2 ty e ti zv kk .i64 h1 ht2 h2 h3 a xs.length cap olds hold n h0 (by omega) hg (by unfold maxLen at hm;omega) h48 hfit;rw [h4] at hrun;have hge:=grownCap_ge w (xs.length+n) cap e;have hcm:grownCap w (xs.length+n) cap e<=maxLen:=grownCap_le_maxLen w (xs.length+n) cap e hm;obtain⟨zz1,zz2⟩:=Gj (M:=g.M) (bs:=g.bs) (n:=n) h7 h8 hz (Builtin.zeroCells z n) (fun o ho=>rfl);obtain⟨g',q1,q2,q3⟩:=(hok.forget ts).drew.freshX d e k (grownCap w (xs.length+n) cap e) (xs++List.replicate n (wD k z)) (olds.toArray++Builtin.zeroCells z n++Builtin.zeroCells z (grownCap w (xs.length+n) cap e - (xs.length+n))) h8 (by simpa using hge) hcm
  (by
   simp only [vG,fT,size_zeroCells,h7,a1,<- dP];congr 1;omega)
  (fun o c ho=>by
   have hmem:c∈(olds.toArray++Builtin.zeroCells z n++Builtin.zeroCells z (grownCap w (xs.length+n) cap e - (xs.length+n))).toList:=by
    rw [<- dZ] at ho;exact bA ho
   rw [kM,kM] at hmem;rcases cK.1 hmem with h | h
   .rcases cK.1 h with h | h
    .exact a2 c (by simpa using h)
    exact hz c (mK h (by omega))
   exact hz c (mK h (by omega)))
  (fun i d c1=>by
   by_cases hi:i<xs.length
   .rw [aW hi] at c1;exact hxs d (bA c1)
   rw [bQ (by omega)] at c1;exact zz1 _ d c1)
  (fun i d j y c1 c2=>by
   rw [<- dZ,kM,kM];by_cases hi:i<xs.length
   .rw [aW hi] at c1;obtain⟨x,x1,x2⟩:=a4 i d j y c1 c2;refine⟨x,?_,x2⟩;have hlt:i * k+j<olds.length:=(aM.1 x1).1;rw [bM,aW (by simpa using hlt)];simpa using x1
   rw [bQ (by omega)] at c1;obtain⟨x,x1,x2⟩:=zz2 _ d j y c1 c2;refine⟨x,?_,x2⟩;have hlt:(i - xs.length) * k+j<(Builtin.zeroCells z n).size:=(dO.1 x1).1;have hsub:i * k=xs.length * k+(i - xs.length) * k:=by rw [<- dP];congr 1;omega
   rw [bM,bQ (by simp only [a1];omega),aW (by simp only [a1] at *;simpa using(by omega:i * k+j - xs.length * k<(Builtin.zeroCells z n).size))];have:i * k+j - xs.length * k=(i - xs.length) * k+j:=by omega
   simp only [a1];rw [this,dZ];exact x1)
 simp only [bB,dC] at q3;exact⟨_,_,g',hrun,q1,(Fr.drew w g).trans q2,q3⟩
theorem Tc (t t2:TypeId)(s x:Operand)(hd:eT o st)(ho:o.op= .call { callee:= .builtin .append,args:=#[s,x],argTypes:=#[t,t2] }) 
  (h:Aj P o.dst t t2 s (st.rdS s) (st.rdS x) st.obj sets ob):Does P o st (· =st.upd ⟨sets,none,ob⟩):=by
 unfold Aj at h;split at h
 .rename_i d e k by_ z ts hdst he;obtain⟨ti,zv,h1,h2,h3,h4,h5,h6,h7,h8⟩:=jV he;split at h
  .rename_i kk n hx;split at h
   .rename_i hs;have hs:st.env ts= .d .nilS:=hs;obtain⟨⟨ht2,b0,b1,b2,hne,hz⟩,rfl,rfl⟩:=h;rw [vC];refine cC hd fun w g tmps hok=>?_;have hx':ev tmps x= .int kk n:=by
     have:=hok.rd x;rw [eS hx] at this;exact this.vEq
    have hv:ev tmps (.tmp ts)= .slice none 0 0:=by
     have:=hok.slot ts;rw [hs] at this;exact this.1.vEq
    rw [hdst];by_cases hn0:n=0
    .subst hn0;have hw0:IntKind.wrap .i64 0=0:=sA (by constructor <;> simp [IntKind.min,IntKind.max,IntKind.signed,IntKind.bits]);refine⟨.slice none 0 0,w,g,_,.inl ?_,rfl,Fr.refl w g,?_,rfl,by simp⟩
     .simp [execOp,ho,resolve,invoke,builtin,Builtin.append_,run_underlying h1,run_underlying ht2,bX h2,hx',hv,asInt,asIntOf,hw0,typeInfo,h2]
     exact(hok.forget ts).set d _ _ ⟨.xs _ [] none 0 0 rfl (aV _) (gD _) (fun _=>⟨rfl,rfl⟩),.xs _ _ _ _ (.inl ⟨rfl,none,rfl⟩)⟩
    obtain⟨m,rfl⟩:∃m:Nat,n=m:=⟨n.toNat,by omega⟩;have hm0:0<m:=by omega
    have hml:m<=maxLen:=by omega
    have hmb:m * ti.bytes<=140737488355328:=by
     have:((m * ti.bytes:Nat):Int)<=140737488355328:=by rw [Gl,h6];exact b1
     omega
    have hrun:=Gw (P:=P) h1 h2 h3 ht2 kk m o.type w hm0 (by omega) (by unfold maxLen at hml;omega) hmb;have hge:=grownCap_ge w m 0 e;have hcm:grownCap w m 0 e<=maxLen:=grownCap_le_maxLen w m 0 e hml;rw [h4] at hrun;obtain⟨z1,z2⟩:=Gj (M:=g.M) (bs:=g.bs) (n:=m) h7 h8 hz (Builtin.zeroCells z m++Builtin.zeroCells z (grownCap w m 0 e - m)) (fun o ho=>by
     rw [zV (by rw [size_zeroCells,h7];exact ho)])
    obtain⟨g',q1,q2,q3⟩:=(hok.forget ts).drew.freshX d e k (grownCap w m 0 e) (List.replicate m (wD k z)) (Builtin.zeroCells z m++Builtin.zeroCells z (grownCap w m 0 e - m)) h8 (by simpa using hge) hcm
     (by rw [vG,size_zeroCells,size_zeroCells,h7,<- dP];congr 1;omega)
     (fun o c ho=>by
      have hmem:c∈(Builtin.zeroCells z m++Builtin.zeroCells z (grownCap w m 0 e - m)).toList:=by
       rw [<- dZ] at ho;exact bA ho
      rw [kM] at hmem;rcases cK.1 hmem with h | h <;> exact hz c (mK h (by omega)))
     z1 z2
    rw [dC] at q3;refine⟨.slice (some ⟨w.heap.size,0,none⟩) m (grownCap w m 0 e),_,g',_,.inl ?_,rfl,(Fr.drew w g).trans q2,q3,rfl,by rw [q1];simp⟩;simp [execOp,ho,resolve,invoke,builtin,hx',hv,hrun]
   .rename_i m a len cap hs;obtain⟨xs,⟨ht2,hsrc,hxs,b0,hg,b1,b2,hne,hz⟩,rfl,rfl⟩:=h;rw [vC];refine cC hd fun w g tmps hok=>?_;have hx':ev tmps x= .int kk n:=by
     have:=hok.rd x;rw [eS hx] at this;exact this.vEq
    have hso:=Cz hok (x:= .tmp ts) h8 hsrc hxs;have hlen:xs.length=len:=by
     have e1:=hsrc;rw [hs] at e1;exact e1.1
    have hr:=hok.rd (.tmp ts);rw [eS hs] at hr;generalize hv:ev tmps (.tmp ts)=v at hr hso;cases hr with
    | slo _ _ _ _ xa hb hc hm=>
    obtain⟨n',rfl⟩:∃n':Nat,n=n':=⟨n.toNat,by omega⟩;have hbb:(len+n') * by_<=140737488355328:=by
     have h9:=b1;rw [<- Int.natCast_add,<- Gl] at h9;omega
    obtain⟨v,w',g',r1,r2,r3,r4⟩:=aDy hok h1 h2 h3 h4 h5 h6 h7 h8 hz ht2 ts d xs len cap xa hv hlen hso hxs n' (by omega) (by omega) hbb (by omega) kk o.type;refine⟨v,w',g',_,.inl ?_,rfl,r3,by rw [hdst];exact r4,rfl,by rw [r2];simp⟩;simp [execOp,ho,resolve,invoke,builtin,hx',hv,r1]
   exact h.elim
  obtain⟨xs,⟨⟨e2,ht2⟩,hsrc,hxs,hne,hz⟩,h⟩:=h;have hrun:∀(tmps:Array Value) (w w':World) (v:Value),(Builtin.append_ #[t,t] o.type #[cL tmps ts,ev tmps x]).run P w= .ok v w'->(execOp (ev tmps) o).run P w= .ok (.value v) w':=by
   intro tmps w w' v hr;rw [<- wW (ty:=o.type) h1 ht2] at hr;have:cL tmps ts=ev tmps (.tmp ts):=rfl;rw [this] at hr;simp [execOp,ho,resolve,invoke,builtin,hr]
  split at h
  .rename_i k' es hs;obtain⟨⟨rfl,hb,hm⟩,rfl,rfl⟩:=h;rw [vC];refine cC hd fun w g tmps hok=>?_;obtain⟨v,w',g',r1,r2,r3,r4⟩:=kD hok h1 h2 h3 h5 h6 (by rw [h4];exact h7) h8 (by rw [h4];exact hz) ts d hne es xs _ hs (.inl rfl) (ev tmps x) (Cz hok h8 hsrc hxs) hb hm hxs o.type;exact⟨v,w',g',_,.inl (hrun tmps w w' v r1),rfl,r3,by rw [hdst];exact r4,rfl,by rw [r2];simp⟩
  .rename_i hs;have hs:st.env ts= .d .nilS:=hs;obtain⟨⟨hb,hm⟩,rfl,rfl⟩:=h;rw [vC];refine cC hd fun w g tmps hok=>?_;have hv:cL tmps ts= .slice none 0 0:=by
    have:=hok.slot ts;rw [hs] at this;exact this.1.vEq
   have hok2:=hok.set ts (.d (.sl true [])) (cL tmps ts) ⟨by rw [hv];exact .nil _,by rw [hv];exact .sl _ _ _ (.inl ⟨_,_,rfl⟩)⟩;have efun:(fun u=>if u=ts then cL tmps ts else cL tmps u)=cL tmps:=by
    funext u;by_cases hu:u=ts <;> simp [hu]
   rw [efun] at hok2;obtain⟨v,w',g',r1,r2,r3,r4⟩:=kD hok2 h1 h2 h3 h5 h6 (by rw [h4];exact h7) h8 (by rw [h4];exact hz) ts d hne [] xs _ (by simp [St.set]) (.inr (.inl ⟨rfl,rfl⟩)) (ev tmps x) (Cz hok h8 hsrc hxs) (by simpa using hb) (by simpa using hm) hxs o.type;rw [St.set_set2] at r4;exact⟨v,w',g',_,.inl (hrun tmps w w' v r1),rfl,r3,by rw [hdst];exact r4,rfl,by rw [r2];simp⟩
  .rename_i hs;obtain⟨⟨hb,hm⟩,rfl,rfl⟩:=h;rw [vC];refine cC hd fun w g tmps hok=>?_;obtain⟨v,w',g',r1,r2,r3,r4⟩:=kD hok h1 h2 h3 h5 h6 (by rw [h4];exact h7) h8 (by rw [h4];exact hz) ts d hne [] xs _ hs (.inr (.inl ⟨rfl,rfl⟩)) (ev tmps x) (Cz hok h8 hsrc hxs) (by simpa using hb) (by simpa using hm) hxs o.type;exact⟨v,w',g',_,.inl (hrun tmps w w' v r1),rfl,r3,by rw [hdst];exact r4,rfl,by rw [r2];simp⟩
  exact h.elim
 exact h.elim
theorem Za {xs:List D} {vs:List Value} (hk:0<k)(hxs:∀y∈xs,y.ncells=k/\y.arr=true)(l5:∀(i:Nat) (d:D) (x:Value),xs[i]?=some d->vs[i]?=some x->R g.M g.bs d x)
  (l6:∀x:Value,x∈vs->x.cells.size=k/\∀c:Value,c∈x.cells.toList->c.oneCell'=true):∀(o:Nat) (c:D) (u:Value),(xs.flatMap D.cells)[o]?=some c->(vs.flatMap fun v=>v.cells.toList)[o]?=some u->R g.M g.bs c u/\c.flat=true:=by
 intro o c u h1 h2;have hlen:∀d∈xs,d.cells.length=k:=fun d hd=>by rw [fC];exact(hxs d hd).1
 rw [vI hk xs hlen,mN] at h1;rw [yD hk vs (fun x hx=>(l6 x hx).1),mN] at h2;obtain⟨x,a1,a2⟩:=h1;obtain⟨v,b1,b2⟩:=h2;have hmem:=bA a1;have hflat:c.flat=true:=by
  have:=(hxs x hmem).2;unfold D.arr at this;rw [gF] at this;exact this c (bA a2)
 refine⟨?_,hflat⟩;have hRx:=l5 _ x v a1 b1;by_cases hany:x= .any
 .subst hany;have:c= .any:=by
   match o % k,a2 with
   | 0,a2=>simpa [D.cells] using a2.symm
   | j+1,a2=>simp [D.cells] at a2
  rw [this];exact .any _
 have hnt':∀cs,x≠ .tup cs:=by
  rintro cs rfl;have:=(hxs _ hmem).2;simp [D.arr,D.cells,D.flat] at this
 exact(hRx.each hany hnt' _ c u a2 (by simpa using b2)).1
theorem nU {α:Type} {l:List α} {m:Nat} {a:α} (h:l[m]?=some a):l.set m a=l:=by
 apply mL;intro i;rw [bP];split
 .rename_i e;subst e;rw [h];simp [(aM.1 h).1]
 rfl
theorem aAz {alt : Bool} (t t2 : TypeId) (y x : Operand) (hd : eT o st) (ho : o.op = .call { callee := .builtin .copy, args := #[y, x], argTypes := #[t, t2] }) 
  (h:Pv P alt o.dst t t2 (st.rdS y) (st.rdS x) st.obj sets ob):Does P o st (· =st.upd ⟨sets,none,ob⟩):=by
 unfold Pv at h;split at h
 .rename_i e k by_ z m a dl dc he hy;obtain⟨ti,zv,h1,h2,h3,h4,h5,h6,h7,h8⟩:=jV he;obtain⟨⟨e2,ht2⟩,h⟩:=h;split at h
  .split at h
   .rename_i m' a' sl' sc' hx;split at h
    .rename_i cs hcs;obtain⟨⟨rfl,rfl,hmin,hne,ha,ha'⟩,rfl,rfl⟩:=h;refine cC hd fun w g tmps hok=>?_;have hr:=hok.rd y;rw [eS hy] at hr;have hr':=hok.rd x;rw [eS hx] at hr';generalize hvy:ev tmps y=vy at hr;generalize hvx:ev tmps x=vx at hr';cases hr with
     | slo _ _ _ _ ya hb hc hm=>
     cases hr' with
     | slo _ _ _ _ xa hb' hc' hm'=>
     obtain⟨b,hb2,rfl⟩:=hb (by omega);obtain⟨b',hb2',rfl⟩:=hb' (by omega);have ebb:b'=b:=by rw [hb2] at hb2';simpa using hb2'.symm
     subst ebb;have hcne:cs≠ []:=by intro e;subst e;simp at ha
     have hml:=(aM.1 hcs).1;obtain⟨cur,E,o1,o2,o3,o4,o5⟩:=(hok.obj m' b' cs hb2 hcs).resolve_left hcne;have hca:cs[a']?=some cs[a']:=aQ ha';have hva:cur[a']?=some (cur[a']'(by rw [o2];exact ha')):=bO (by rw [o2];exact ha');generalize hc0:cs[a']=c at hca;generalize hu0:cur[a']'(by rw [o2];exact ha')=u at hva;have hcD:cs.getD a' .any=c:=by rw [fA,hca];rfl
     rw [hcD];obtain⟨c1,c2,c3⟩:=o5 a' c u hca hva
     -- the run
     have hl:=run_loadCells_list (P:=P) w ⟨b',a',none⟩ [u] (fun j v hj=>by
      match j with
      | 0=>
       simp at hj;subst hj;rw [Addr.add_none,cell_of_row w b' (a'+0) cur E (0,0) o1];exact hva
      | j+1=>simp at hj)
     have hst:=run_storeCells_at P b' a E [u] 0 cur w o1 (by simp;omega) (by simpa using c3);simp only [jP,bT,dF,fG] at hl hst;have hmn:Nat.min sl' dl=1:=hmin;have hrun:(execOp (ev tmps) o).run P w= .ok (.value (.int .i64 1)) (w.setRow b' (cur.toList.take a++ [u]++cur.toList.drop (a+1)).toArray):=by
      simp [execOp,ho,resolve,invoke,builtin,Builtin.copy_,run_underlying h1,bX h2,h5,Builtin.lenOf,Builtin.firstCells,hvy,hvx,hmn,hl,hst,goInt]
     -- the tags
     let ρ:nD->nD:=fun t=>if t.1= .obj m'/\t.2.head?=some a' then(.obj m',a::t.2.tail)else t
     have hρo:∀t:nD,t.1≠ .obj m'->ρ t=t:=fun t ht=>by simp only [ρ,ht,false_and,bJ]
     have hρi:∀(i:Nat) (q:List Nat),i≠a'->ρ (.obj m',i::q)=(.obj m',i::q):=fun i q hi=>by simp [ρ,hi]
     have hρa:∀(q:List Nat),ρ (.obj m',a'::q)=(.obj m',a::q):=fun q=>by simp [ρ]
     have p1:=hok.parkObj m' (cs.set a' c.s1) ρ hρo hml (fun b2 cs2 q1 q2 _=>by
      have e1:b2=b':=by rw [hb2] at q1;simpa using q1.symm
      have e2:cs2=cs:=by rw [hcs] at q2;simpa using q2.symm
      subst e1;subst e2;refine .inr ⟨cur,E,o1,by simpa using o2,by simp [gV,o3,ρ],o4,fun i d v a1 a2=>?_⟩;rw [bP] at a1;split at a1
      .rename_i e;subst e;simp only [ha',aU,bC] at a1;subst a1;have:v=u:=by rw [hva] at a2;simpa using a2.symm
       subst this;exact⟨c1.s1,Tw c1 c3,c3⟩
      rename_i e;obtain⟨d1,d2,d3⟩:=o5 i d v a1 a2;refine⟨d1,d2.move (fun _ _ _ h=>h) (fun _ _ h=>h) [i] fun b3 q hq=>⟨rfl,fun _ h=>h,?_⟩,d3⟩;simp only [gV,hq,gL,Gb,hρi i q (fun e'=>e e'.symm)])
     have hmv:Own w g.M g.bs (gV ρ g.X) (.obj m') [a] c u:=c2.move (fun _ _ _ h=>h) (fun _ _ h=>h) [a] fun b3 q hq=>⟨rfl,fun _ h=>h,by simp only [gV,hq,gL,Gb,hρa q]⟩;have hsz1:(cs.set a' c.s1).length=cs.length:=by simp
     have hg1:(st.obj.set m' (cs.set a' c.s1))[m']?=some (cs.set a' c.s1):=by simp [hml]
     have hne1:cs.set a' c.s1≠ []:=by intro e;rw [e] at hsz1;simp at hsz1;exact hcne (lS hsz1.symm)
     obtain⟨cur2,E2,w1,w2,w3,w4,w5⟩:=(p1.obj m' b' _ hb2 hg1).resolve_left hne1;have ecur:cur2=cur:=by rw [o1] at w1;simp at w1;exact w1.1.symm
     subst ecur;have hsp:∀i:Nat,(cur2.toList.take a++ [u]++cur2.toList.drop (a+1))[i]?=if i<a then cur2.toList[i]? else if i<a+1 then [u][i - a]? else cur2.toList[i]?:=fun i=>fW (ds:= [u]) (by simpa using(by omega:a+1<=cur2.size))
     obtain⟨p2,p3⟩:=p1.writeObj m' b' ((cs.set a' c.s1).set a c) (cur2.toList.take a++ [u]++cur2.toList.drop (a+1)).toArray hb2 (by rw [hg1];simpa using hne1)
      (by
       rw [fT];have:=jB (cs:=cur2.toList) (ds:= [u]) (off:=a) (by simpa using(by omega:a+1<=cur2.size));simp only [bT,dF,fG] at this;rw [this,cV,cV,bY,o2])
      (fun i d v q1 q2=>by
       rw [gK,hsp] at q2;rw [bP] at q1;by_cases e:a=i
       .subst e;simp only [cV,ha,aU,bC] at q1;subst q1;simp at q2;subst q2;exact⟨c1,hmv,c3⟩
       rw [aC e] at q1;have q3:cur2[i]?=some v:=by
        by_cases c1:i<a
        .simpa [c1] using q2
        have c2:¬i<a+1:=by omega
        simpa [c1,c2] using q2
       exact w5 i d v q1 q3)
     have efin:(st.obj.set m' (cs.set a' c.s1)).set m' ((cs.set a' c.s1).set a c)=st.obj.set m' ((cs.set a c).set a' c.s1):=by
      rw [aH,Gm _ _ (fun e=>hne e.symm)]
     refine⟨.int .i64 1,_,_,_,.inl hrun,rfl,(Fr.ren w g ρ).trans p3,?_,rfl,by simp⟩;simp only [efin] at p2;cases hdst:o.dst with
     | none=>exact p2
     | some d=>exact p2.set d (.d (.int 1)) _ (bV (.v _ rfl) rfl d)
    exact h.elim
   exact h.elim
  obtain⟨xs,cs,⟨hsrc,hxs,hcs,hfit⟩,rfl,rfl⟩:=h;refine cC hd fun w g tmps hok=>?_;have hr:=hok.rd y;rw [eS hy] at hr;generalize hvy:ev tmps y=vy at hr;cases hr with
  | slo _ _ _ _ ya hb hc hm=>
  obtain⟨s1,s2⟩:=Cz hok h8 hsrc hxs;have hml:=(aM.1 hcs).1;have hfin:∀(w':World) (g':Gh) (ob:List (List D)) (n:Nat),Ok w' g' { st with obj:=ob } (cL tmps)->Ok w' g' (st.upd ⟨o.dst.toList.map (fun d=>(d,.d (.int (n:Nat)))),none,some ob⟩) (xR o.dst (.int .i64 n) (cL tmps)):=by
   intro w' g' ob n h;cases hdst:o.dst with
   | none=>exact h
   | some d=>exact h.set d (.d (.int n)) _ (bV (.v _ rfl) rfl d)
  by_cases hn:min xs.length dl=0
  .rw [hn];have e1:st.obj.set m (eV cs a ((xs.take 0).flatMap D.cells))=st.obj:=by
    have:eV cs a ((xs.take 0).flatMap D.cells)=cs:=by simp [eV]
    rw [this];exact nU hcs
   rw [e1];have hlx:∃xa len c,ev tmps x= .slice xa len c/\len=xs.length:=by
    by_cases h0:xs= []
    .obtain⟨a,c,e⟩:=s1 h0;exact⟨_,_,_,e,by rw [h0];rfl⟩
    obtain⟨bx,ox,cx,vs,e,_⟩:=s2 h0;exact⟨_,_,_,e,rfl⟩
   obtain⟨xa,len,cx,hvx,rfl⟩:=hlx;have hn':Nat.min xs.length dl=0:=hn;have hfc:(Builtin.firstCells ti.size 0 (.slice xa xs.length cx)).run P w= .ok #[] w:=by
    cases xa with
    | none=>simp [Builtin.firstCells]
    | some a=>simp [Builtin.firstCells,loadCells,loadCellsFrom]
   refine⟨.int .i64 0,w,g,_,.inl ?_,rfl,Fr.refl w g,hfin w g st.obj 0 hok,rfl,by simp⟩;cases ya <;> simp [execOp,ho,resolve,invoke,builtin,Builtin.copy_,run_underlying h1,bX h2,Builtin.lenOf,hvy,hvx,hn',hfc,storeCells,goInt]
  have hx0:xs≠ []:=by intro e;subst e;simp at hn
  obtain⟨bx,ox,cx,vs,hvx,l1,l5,l6,l7⟩:=s2 hx0;obtain⟨b,hb2,rfl⟩:=hb (by omega);have hkpos:0<min xs.length dl * k:=qT (by omega) h8;have hcne:cs≠ []:=by intro e;subst e;simp at hfit;omega
  obtain⟨cur,E,o1,o2,o3,o4,o5⟩:=(hok.obj m b cs hb2 hcs).resolve_left hcne;have hvsz:∀v∈vs,v.cells.size=k:=fun v hv=>(l6 v hv).1;have hlen:∀d∈xs,d.cells.length=k:=fun d hd=>by rw [fC];exact(hxs d hd).1
  generalize hL:(vs.flatMap fun v=>v.cells.toList)=L at l7;have hLl:L.length=xs.length * k:=by rw [<- hL,nM vs hvsz,l1]
  generalize hN:min xs.length dl=N at *;have hNx:N * k<=xs.length * k:=iG _ (by omega);have htl:(L.take (N * k)).length=N * k:=by rw [bF];omega
  have hone:∀v∈L,v.oneCell'=true:=by
   intro u hu;rw [<- hL,kQ] at hu;obtain⟨v,hv,hu⟩:=hu;exact(l6 v hv).2 u hu
  have hl:=run_loadCells_list (P:=P) w ⟨bx,ox,none⟩ (L.take (N * k)) (fun j v hj=>by
   rw [eJ] at hj;split at hj
   .exact l7 j v hj
   cases hj)
  have hst:=run_storeCells_at P b a E (L.take (N * k)) 0 cur w o1 (by rw [htl,o2];omega) (fun v hv=>hone v (oZ hv));rw [htl] at hl hst;simp only [jP] at hst;have hmn:Nat.min xs.length dl=N:=hN;have e1:a+((xs.take N).flatMap D.cells).length<=cs.length:=by
   rw [sE (k:=k) _ (fun d hd=>hlen d (oZ hd)),bF,jN (by omega)];exact hfit
  have eD:((xs.take N).flatMap D.cells).length=N * k:=by
   rw [sE (k:=k) _ (fun d hd=>hlen d (oZ hd)),bF,jN (by omega)]
  have e2':a+(L.take (N * k)).length<=cur.toList.length:=by rw [htl,bY,o2];exact hfit
  have hpre:∀(j:Nat) (d:D),((xs.take N).flatMap D.cells)[j]?=some d->(xs.flatMap D.cells)[j]?=some d:=by
   intro j d hj;have:xs.flatMap D.cells=(xs.take N).flatMap D.cells++(xs.drop N).flatMap D.cells:=by rw [<- iB,fP]
   rw [this,aW (by exact(aM.1 hj).1)];exact hj
  obtain⟨k6,k7⟩:=hok.writeObj m b (eV cs a ((xs.take N).flatMap D.cells)) (cur.toList.take a++L.take (N * k)++cur.toList.drop (a+(L.take (N * k)).length)).toArray hb2 (by rw [hcs];simpa using hcne)
   (by rw [fT,jB e2'];unfold eV;rw [jB e1,bY,o2])
   (fun i d v a1 a2=>by
    unfold eV at a1;rw [fW e1,eD] at a1;rw [gK,fW e2',htl] at a2;by_cases c1:i<a
    .simp only [c1,aU] at a1 a2;exact o5 i d v a1 (by simpa using a2)
    simp only [c1,bJ] at a1 a2;by_cases c2:i<a+N * k
    .simp only [c2,aU] at a1 a2;have a2':L[i - a]?=some v:=by
      rw [eJ] at a2;split at a2
      .exact a2
      cases a2
     have:=Za h8 hxs l5 l6 (i - a) d v (hpre _ _ a1) (by rw [hL];exact a2');exact⟨this.1,.flat _ _ _ this.2,hone v (bA a2')⟩
    simp only [c2,bJ] at a1 a2;exact o5 i d v a1 (by simpa using a2))
  refine⟨.int .i64 N,_,_,_,.inl ?_,rfl,k7,hfin _ _ _ N k6,rfl,by simp⟩;rw [<- h5] at hl hst htl |-;simp [execOp,ho,resolve,invoke,builtin,Builtin.copy_,run_underlying h1,bX h2,Builtin.lenOf,Builtin.firstCells,hvy,hvx,hmn,hl,hst,goInt,htl]
 exact h.elim
end
end Go.Vm
