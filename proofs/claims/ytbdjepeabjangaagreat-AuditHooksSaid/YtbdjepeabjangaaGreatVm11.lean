import Derived.Test.YtbdjepeabjangaaGreatVm9
set_option linter.all false
namespace Go.Vm
open Go
variable {bs:List Nat}{k:Nat}{st:St}
section
variable {P:Program}
def iU(P:Program)(dst:Option Tmp)(t:TypeId)(len:Nat)(parts:List (Nat×Operand))(st:St)(K:St->Prop):Prop:=
 match fA P t,dst with
 | some (_,k,_,_),some d=>(parts.map (·.1)=List.range len/\len * k<=2 ^ 24)/\(∀p∈parts,(st.rd p.2).solid=true/\(st.rd p.2).ncells=k)/\K (st.set d (.d (.sl true (parts.map fun p=>(st.rd p.2).s2))))
 | _,_=>False
theorem Cf(k:Nat):∀(vs:List (Nat×Value)) (i0:Nat) (pre:List Value) (cells:Array Value),vs.map (·.1)=(List.range vs.length).map (i0+ ·)->(∀p∈vs,p.2.cells.size=k)->pre.length=i0 * k->cells.size=(i0+vs.length) * k->(∀j,j<i0 * k->cells[j]?=pre[j]?)->
  Instr.fill (fun i=>some (i * k,k)) cells vs=some (pre++vs.flatMap fun p=>p.2.cells.toList).toArray
 | [],i0,pre,cells,_,_,h3,h4,h5=>by
  simp only [Instr.fill,xZ,iK,aP];apply Array.ext_getElem?;intro j;simp only [eO];by_cases hj:j<i0 * k
  .exact h5 j hj
  simp only [dO,iJ] at h4;rw [yG (by omega),gP (by omega)]
 | (i, v) :: rest, i0, pre, cells, h1, h2, h3, h4, h5 => by
  have hi:i=i0:=by
   have:=congrArg (fun l=>l[0]?) h1;simpa using this
  subst hi;have hv:v.cells.size=k:=h2 (i,v) (by simp);have hsz:i * k+k<=cells.size:=by
   rw [h4];simp only [bU];have:(i+(rest.length+1)) * k=i * k+k+rest.length * k:=by rw [cB,cB];omega
   omega
  -- the cells behind one part
  have one:∀(xs:List Value) (o:Nat) (cells:Array Value),o+xs.length<=cells.size->(xs.zipIdx o).foldl (fun cs (c,j)=>cs.setIfInBounds j c) cells=(cells.toList.take o++xs++cells.toList.drop (o+xs.length)).toArray:=by
   intro xs;induction xs with
   | nil=>intro o cells _;simp
   | cons x xs ih=>
    intro o cells h;simp only [bU] at h;simp only [tB,eG];rw [ih (o+1) _ (by simp;omega)];congr 1;apply lR;intro j;simp only [Gl,bU];have e1:o+1+xs.length<=(cells.toList.set o x).length:=by simp;omega
    have e2:o+(x::xs).length<=cells.toList.length:=by simp;omega
    have:=eA (cs:=cells.toList.set o x) (ds:=xs) (off:=o+1) (i:=j) e1;rw [this];have:=eA (cs:=cells.toList) (ds:=x::xs) (off:=o) (i:=j) e2;simp only [bU] at this;rw [this];by_cases c1:j<o
    .simp only [c1,aJ,show j<o+1 by omega];rw [bS,aG (by omega)]
    by_cases c2:j=o
    .subst c2;simp only [show j<j+1 by omega,xW,aJ,aZ,show j<j+(xs.length+1) by omega,kU];rw [bS,aR rfl,aR (by simp;omega)];simp
    simp only [c1,show ¬j<o+1 by omega,aZ];by_cases c3:j<o+1+xs.length
    .simp only [c3,show j<o+(xs.length+1) by omega,aJ];rw [show j - o=(j - (o+1))+1 by omega];simp
    simp only [c3,show ¬j<o+(xs.length+1) by omega,aZ];rw [bS,aG (by omega)]
  have hz:(v.cells.zipIdx.foldl (fun cs (c,j)=>cs.setIfInBounds (i * k+j) c) cells)=(cells.toList.take (i * k)++v.cells.toList++cells.toList.drop (i * k+v.cells.toList.length)).toArray:=by
   rw [<- one v.cells.toList (i * k) cells (by rw [bF,hv];exact hsz)];have:∀(xs:List Value) (o c:Nat) (cells:Array Value),(xs.zipIdx c).foldl (fun cs (x,j)=>cs.setIfInBounds (o+j) x) cells=(xs.zipIdx (o+c)).foldl (fun cs (x,j)=>cs.setIfInBounds j x) cells:=by
    intro xs;induction xs with
    | nil=>intro o c cells;rfl
    | cons x xs ih=>intro o c cells;simp only [tB,eG];rw [ih o (c+1)];rfl
   rw [<- Array.foldl_toList,Array.toList_zipIdx,this];rfl
  simp only [Instr.fill];rw [aG (by simp [hv];omega),hz];have ih:=Cf k rest (i+1) (pre++v.cells.toList) (cells.toList.take (i * k)++v.cells.toList++cells.toList.drop (i * k+v.cells.toList.length)).toArray
   (by
    have h1':=congrArg List.tail h1;simp only [fM,List.tail_cons,bU,List.range_succ_eq_map,pX] at h1';rw [h1'];apply fC;intro x _;simp;omega)
   (fun p hp=>h2 p (by simp [hp]))
   (by rw [aX,h3,bF,hv,cB];omega)
   (by
    rw [eK,gA (by rw [bF,bF,hv];exact hsz),bF,h4];simp only [bU];congr 1;omega)
   (fun j hj=>by
    rw [eO,eA (by rw [bF,bF,hv];exact hsz),bF,hv];rw [cB,Nat.one_mul] at hj;by_cases c1:j<i * k
    .rw [aR c1,aU (by omega)];rw [cQ];exact h5 j c1
    rw [aG c1,aR hj,bI (by omega),h3])
  rw [ih];simp [hU]
theorem sK (hk:0<k):∀(vs:List Value),(∀v∈vs,v.cells.size=k)->∀j,(vs.flatMap fun v=>v.cells.toList)[j]?=(vs[j / k]?).bind fun v=>v.cells[j % k]?
 | [],_,j=>by simp
 | v :: vs, h, j => by
  have hv:v.cells.toList.length=k:=by rw [bF];exact h v (by simp)
  rw [hU];by_cases hj:j<k
  .rw [aU (by omega),tN hj,nL hj];simp
  rw [bI (by omega),hv,sK hk vs (fun x hx=>h x (by simp [hx])) (j - k)];have e1:j / k=(j - k) / k+1:=by
   rw [show j=(j - k)+k by omega,Nat.add_div_right _ hk,show j - k+k - k=j - k by omega]
  have e2:j % k=(j - k) % k:=by
   rw [show j=(j - k)+k by omega,xF,show j - k+k - k=j - k by omega]
  rw [e1,e2];simp
theorem jO :∀(vs:List Value),(∀v∈vs,v.cells.size=k)->(vs.flatMap fun v=>v.cells.toList).length=vs.length * k
 | [],_=>by simp
 | v::vs,h=>by
  rw [hU,aX,jO vs (fun x hx=>h x (by simp [hx])),bF,h v (by simp),bU,cB];omega
theorem tT (hk:0<k)(vs:List Value)(h:∀v∈vs,v.cells.size=k) {i j:Nat} {v c:Value} (hv:vs[i]?=some v)(hj:v.cells[j]?=some c):(vs.flatMap fun v=>v.cells.toList)[i * k+j]?=some c:=by
 have hjk:j<k:=by
  have:=(cZ.1 hj).1
  rwa [h v (aS hv)] at this
 rw [sK hk vs h];have e1:(i * k+j) / k=i:=by rw [lN,Nat.mul_add_div hk,tN hjk];omega
 have e2:(i * k+j) % k=j:=by rw [lN,Nat.mul_add_mod,nL hjk]
 rw [e1,e2,hv];exact hj
theorem Ok.fresh {w:World} {g:Gh} {val:Nat->Value} (h:Ok w g st val)(d:Nat)(E:TypeId)(es:List D)(vs:List Value)(k:Nat)(hk:0<k)(hl:vs.length=es.length)(hm:es.length<=maxLen)
  (hr:∀(i:Nat) (e:D) (x:Value),es[i]?=some e->vs[i]?=some x->R g.M g.bs e x) (hs:∀(i:Nat) (e:D),es[i]?=some e->e.ncells=k)
  (hx:∀v∈vs,v.cells.size=k/\∀c∈v.cells.toList,c.oneCell'=true) (cells:Array Value) (hcells:cells.toList=vs.flatMap fun v=>v.cells.toList):
  ∃g',g'.bl=g.bl/\Fr w g (w.alloc (.cells cells E)) g'/\Ok (w.alloc (.cells cells E)) g' (st.set d (.d (.sl true es))) (fun u=>if u=d then .slice (some ⟨w.heap.size,0,none⟩) es.length es.length else val u):=by
 obtain⟨k1,k2⟩:=(h.forget d).known cells cells E (some (.slot d, [])) (fun _ _ h=>h);have hsz:∀v∈vs,v.cells.size=k:=fun v hv=>(hx v hv).1;refine⟨{ g with M:=g.M.add w.heap.size cells,X:=fun b=>if b=w.heap.size then some (.slot d, [])else g.X b },rfl,k2,?_⟩;have:=k1.set d (.d (.sl true es)) (.slice (some ⟨w.heap.size,0,none⟩) es.length es.length) ⟨?_,?_⟩
 .have e:((st.set d .any).set d (.d (.sl true es)))=st.set d (.d (.sl true es)):=by
   simp only [St.set];congr 1;funext u;split <;> rfl
  rwa [e] at this
 .refine .sl true es _ 0 _ _ k vs hl rfl hk (bD _) hm (fun i e x a1 a2=>(hr i e x a1 a2).mono k2.mono (fun _ _ h=>h)) hs (fun i x a=>⟨hsz x (aS a),fun j c hj=>?_⟩);have hc:c∈x.cells.toList:=aS (by simpa using hj);refine⟨(hx x (aS a)).2 c hc,?_⟩;simp only [Mem.add,aJ,dT];have:=tT hk vs hsz a hj;rw [<- hcells] at this;simpa using this
 refine .sl _ _ _ ?_;cases es with
 | nil=>exact .inl ⟨_,_,rfl⟩
 | cons e es =>
  have hclen:cells.size=(e::es).length * k:=by
   rw [<- bF,hcells,jO vs hsz,hl]
  refine .inr ⟨w.heap.size,_,_,k,cells,E,rfl,by simp,by simp,oH w _,hk,hclen,rfl,bD _,hm,fun o ho=>?_,hs⟩;simp only [Mem.add,aJ];exact yG (by omega)
theorem Hs {M:Mem} {d:D} {x:Value} (h:R M bs d x)(h1:d.solid=true):∀c∈x.cells.toList,c.oneCell'=true:=by
 obtain⟨s1,s2⟩:=iE h1;intro c hc;obtain⟨i,hi⟩:=dY hc;have hi':x.cells[i]?=some c:=by simpa using hi
 have hl:i<d.cells.length:=by
  have:=(cZ.1 hi').1;rw [h.cells_len s1 s2,iZ] at this;exact this
 exact(h.each s1 s2 i _ c (aN hl) hi').2
theorem pQ(d:D):d.s2.ncells=d.ncells:=by
 cases d <;> simp [D.s2,D.s1,D.ncells]
theorem Af {o:Oper} {K:St->Prop} (t:TypeId)(len:Nat)(parts:Array (Nat×Operand))(hd:dD o st)(ho:o.op= .buildSlice t len parts)(h:iU P o.dst t len parts.toList st K):Does P o st K:=by
 unfold iU at h;split at h
 .rename_i e k by_ z d he hdst;obtain⟨⟨hlen,hsmall⟩,hparts,hK⟩:=h;obtain⟨ti,zv,h1,h2,h3,h4,h5,h6,h7,h8⟩:=gW he;refine bE hd fun w g tmps hok=>?_;have hpl:parts.toList.length=len:=by have:=congrArg List.length hlen;simpa using this
  have hR:∀(i:Nat) (e:D) (x:Value),(parts.toList.map fun p=>(st.rd p.2).s2)[i]?=some e->(parts.toList.map fun p=>ev tmps p.2)[i]?=some x->R g.M g.bs e x/\e.solid=true/\e.ncells=k:=by
   intro i e x a1 a2;rw [bP,cU] at a1 a2;obtain⟨p,a1,rfl⟩:=a1;obtain⟨p',a2,rfl⟩:=a2;rw [a1] at a2;simp at a2;subst a2;obtain⟨b1,b2⟩:=hparts p (aS a1);exact⟨(hok.rd p.2).s2,Cy b1,by rw [pQ];exact b2⟩
  have hsz:∀v∈parts.toList.map fun p=>ev tmps p.2,v.cells.size=k/\∀c∈v.cells.toList,c.oneCell'=true:=by
   intro v hv;obtain⟨i,hi⟩:=dY hv;have hl:i<(parts.toList.map fun p=>(st.rd p.2).s2).length:=by
    have:=(aH.1 hi).1;simpa using this
   obtain⟨r1,r2,r3⟩:=hR i _ v (aN hl) hi;obtain⟨s1,s2⟩:=iE r2;exact⟨by rw [r1.cells_len s1 s2];exact r3,Hs r1 r2⟩
  obtain⟨g',hbl,k2,k1⟩:=hok.fresh d e (parts.toList.map fun p=>(st.rd p.2).s2) (parts.toList.map fun p=>ev tmps p.2) k h8 (by simp) (by
    have hb:len<=len * k:=Nat.le_mul_of_pos_right len h8;unfold maxLen;simp only [cC,hpl];omega)
   (fun i e x a1 a2=>(hR i e x a1 a2).1) (fun i e a1=>by
    rw [bP,cU] at a1;obtain⟨p,a1,rfl⟩:=a1;rw [pQ];exact(hparts p (aS a1)).2) hsz (parts.toList.flatMap fun p=>(ev tmps p.2).cells.toList).toArray (by simp [List.flatMap_map])
  have hel:(parts.toList.map fun p=>(st.rd p.2).s2).length=len:=by rw [cC];exact hpl
  rw [hel] at k1;refine ⟨_, _, g', _, .inl ?_, hK, k2, by rw [hdst]; exact k1, rfl, by rw [hbl]; simp⟩;have hfill : ∀ cells : Array Value, cells.size = len * k -> Instr.fill (fun i => some (i * k, k)) cells (parts.toList.map fun p => (p.1, ev tmps p.2)) = some (parts.toList.flatMap fun p => (ev tmps p.2).cells.toList).toArray := by
   intro cells hc;have:=Cf k (parts.toList.map fun p=>(p.1,ev tmps p.2)) 0 [] cells (by simp only [pX,cC,hpl];rw [show(fun(x:Nat×Value)=>x.1) ∘ (fun(p:Nat×Operand)=>(p.1,ev tmps p.2))=fun p=>p.1 from rfl,hlen];simp)
    (fun p hp=>by
     obtain⟨q,hq,rfl⟩:=bY.1 hp;exact(hsz _ (bY.2 ⟨q,hq,rfl⟩)).1) (by simp) (by simp [hc,hpl]) (fun j hj=>by omega)
   rw [this];simp [List.flatMap_map]
  have hn:¬(len * ti.size > 2 ^ 24):=by rw [h5];omega
  by_cases hz0:len * k=0
  .have hf:=hfill (Array.map (fun _=>default) (Array.range 0)) (by simp [hz0]);have:(parts.map fun x=>(x.1,ev tmps x.2)).toList=parts.toList.map fun p=>(p.1,ev tmps p.2):=by simp
   simp [execOp,ho,Instr.buildSlice,run_underlying h1,bH h2,h5,hz0];rw [hf];simp [newRow,newObj];rfl
  have hf:=hfill ((Array.range (len * k)).map (fun x=>z[x % z.size]!)) (by simp);simp [execOp,ho,Instr.buildSlice,run_underlying h1,bH h2,h5,hz0,zeroValue,typeInfo,h2,h3,h4,show ¬(16777216<len * k) by omega];rw [hf];simp [newRow,newObj];rfl
 exact h.elim
end
section
variable {P:Program}
def gR(P:Program)(t:TypeId):Option (List (Nat×Nat)):=
 match P.underlying t with
 | some (.struct fs)=>if fs.toList.all (fun f=>(P.info? f.type).isSome)then some (fs.toList.map fun f=>(f.offset,P.cellsOf f.type))else none
 | some (.array n e)=>if(P.info? e).isSome then some ((List.range n).map fun i=>(i * P.cellsOf e,P.cellsOf e))else none
 | _=>none
def Fx(pl:List (Nat×Nat)):List D->List (Nat×D)->Option (List D)
 | cs, []=>some cs
 | cs,(i,d)::r=>match pl[i]? with
  | some (off,n)=>if d.solid=true/\d.ncells=n/\off+n<=cs.length then Fx pl (dE cs off d.s2.cells) r else none
  | none=>none
def qS(P:Program)(dst:Option Tmp)(t:TypeId)(parts:List (Nat×Operand))(st:St)(K:St->Prop):Prop:=
 match gR P t,cK P t with
 | some pl,some zs=>match Fx pl zs (parts.map fun p=>(p.1,st.rd p.2))with
  | some cs=>K (st.put dst (.d (.agg cs)))
  | none=>False
 | _,_=>False
theorem Vs {t:TypeId} {cs:List D} (h:cK P t=some cs):∃i z,P.info? t=some i/\i.zero=some z/\cs=z.cells.toList.map D.ofV1/\∀x∈z.cells.toList,x.oneCell'=true:=by
 unfold cK at h;split at h
 .rename_i i hi;split at h
  .rename_i z hz;split at h
   .rename_i hall;simp only [aP] at h;refine⟨i,z,hi,hz,h.symm,fun x hx=>?_⟩;rw [yJ] at hall;obtain⟨j,hj⟩:=dY hx;rw [cQ] at hj;obtain⟨hl,rfl⟩:=cZ.1 hj;exact hall j hl
   cases h
  cases h
 cases h
theorem Jo {α β:Type} (f:α->Sem β)(h:α->β)(w:World):∀(l:List α),(∀x∈l,(f x).run P w= .ok (h x) w)->(l.mapM f).run P w= .ok (l.map h) w
 | [],_=>rfl
 | x::l,hl=>by
  simp only [List.mapM_cons,Sem.run_bind,hl x (by simp),Result.andThen_ok,Jo f h w l (fun y hy=>hl y (by simp [hy])),Sem.run_pure,fM]
theorem Lx(v:Value)(off:Nat)(cells:Array Value)(h:off+v.cells.size<=cells.size):
  (v.cells.zipIdx.foldl (fun cs (c,j)=>cs.setIfInBounds (off+j) c) cells)=(cells.toList.take off++v.cells.toList++cells.toList.drop (off+v.cells.toList.length)).toArray:=by
 have:=Cf v.cells.size [(0,v)] 0 [] (cells.extract off (off+v.cells.size)) (by simp) (by simp) (by simp) (by simp;omega) (by simp);have one:∀(xs:List Value) (o:Nat) (cells:Array Value),o+xs.length<=cells.size->(xs.zipIdx o).foldl (fun cs (c,j)=>cs.setIfInBounds j c) cells=(cells.toList.take o++xs++cells.toList.drop (o+xs.length)).toArray:=by
  intro xs;induction xs with
  | nil=>intro o cells _;simp
  | cons x xs ih=>
   intro o cells h;simp only [bU] at h;simp only [tB,eG];rw [ih (o+1) _ (by simp;omega)];congr 1;apply lR;intro j;simp only [Gl,bU];have e1:o+1+xs.length<=(cells.toList.set o x).length:=by simp;omega
   have e2:o+(x::xs).length<=cells.toList.length:=by simp;omega
   rw [eA (cs:=cells.toList.set o x) (ds:=xs) (off:=o+1) (i:=j) e1];have:=eA (cs:=cells.toList) (ds:=x::xs) (off:=o) (i:=j) e2;simp only [bU] at this;rw [this];by_cases c1:j<o
   .simp only [c1,aJ,show j<o+1 by omega];rw [bS,aG (by omega)]
   by_cases c2:j=o
   .subst c2;simp only [show j<j+1 by omega,xW,aJ,aZ,show j<j+(xs.length+1) by omega,kU];rw [bS,aR rfl,aR (by simp;omega)];simp
   simp only [c1,show ¬j<o+1 by omega,aZ];by_cases c3:j<o+1+xs.length
   .simp only [c3,show j<o+(xs.length+1) by omega,aJ];rw [show j - o=(j - (o+1))+1 by omega];simp
   simp only [c3,show ¬j<o+(xs.length+1) by omega,aZ];rw [bS,aG (by omega)]
 have shift:∀(xs:List Value) (o c:Nat) (cells:Array Value),(xs.zipIdx c).foldl (fun cs (x,j)=>cs.setIfInBounds (o+j) x) cells=(xs.zipIdx (o+c)).foldl (fun cs (x,j)=>cs.setIfInBounds j x) cells:=by
  intro xs;induction xs with
  | nil=>intro o c cells;rfl
  | cons x xs ih=>intro o c cells;simp only [tB,eG];rw [ih o (c+1)];rfl
 rw [<- one v.cells.toList off cells (by rw [bF];exact h),<- Array.foldl_toList,Array.toList_zipIdx,shift];rfl
theorem Bv {M:Mem} (pl:List (Nat×Nat))(place:Nat->Option (Nat×Nat))(hp:∀(i:Nat) (p:Nat×Nat),pl[i]?=some p->place i=some p):∀(parts:List (Nat×D)) (bQ:List (Nat×Value)) (cs cs':List D) (cells:Array Value),
  Fx pl cs parts=some cs'->cells.size=cs.length->bQ.length=parts.length->(∀(i:Nat) (p:Nat×D) (q:Nat×Value),parts[i]?=some p->bQ[i]?=some q->q.1=p.1/\R M bs p.2 q.2)->
  (∀(i:Nat) (d:D) (x:Value),cs[i]?=some d->cells[i]?=some x->R M bs d x/\x.oneCell'=true/\(d.flat=true\/x= .slice none 0 0))->
  ∃cells',Instr.fill place cells bQ=some cells'/\cells'.size=cs'.length/\∀(i:Nat) (d:D) (x:Value),cs'[i]?=some d->cells'[i]?=some x->R M bs d x/\x.oneCell'=true/\(d.flat=true\/x= .slice none 0 0)
 | [],bQ,cs,cs',cells,h,hl,hv,_,hc=>by
  simp only [Fx,aP] at h;subst h;have:bQ= []:=jW (by simpa using hv);subst this;exact⟨cells,rfl,hl,hc⟩
 | (i, d) :: parts, bQ, cs, cs', cells, h, hl, hv, hr, hc => by
  match bQ,hv with
  | (i', v) :: bQ, hv =>
   obtain⟨e1,hrv⟩:=hr 0 (i,d) (i',v) rfl rfl;simp only at e1 hrv;subst e1;simp only [Fx] at h;split at h
   .rename_i off n hpl;split at h
    .rename_i hcond;obtain⟨hs,hn,hle⟩:=hcond;obtain⟨s1,s2⟩:=iE hs;have hsz:v.cells.size=n:=by rw [hrv.cells_len s1 s2];exact hn
     have hfit:off+v.cells.size<=cells.size:=by rw [hsz,hl];exact hle
     simp only [Instr.fill,hp _ _ hpl];rw [aG (by simp only [hsz];simp;omega),Lx v off cells hfit];have hd2:d.s2.cells.length=n:=by rw [<- iZ,pQ];exact hn
     obtain⟨t1,t2⟩:=iE (Cy hs);refine Bv pl place hp parts bQ (dE cs off d.s2.cells) cs' _ h ?_ (by simpa using hv) (fun j p q a1 a2=>hr (j+1) p q (by simpa using a1) (by simpa using a2)) (fun j e x a1 a2=>?_)
     .rw [eK,gA (by rw [bF,bF];exact hfit)];unfold dE;rw [gA (by rw [hd2];exact hle),bF,hl]
     unfold dE at a1;rw [eA (by rw [hd2];exact hle),hd2] at a1;rw [eO,eA (by rw [bF,bF];exact hfit),bF,hsz] at a2;by_cases c1:j<off
     .simp only [c1,aJ] at a1 a2;exact hc j e x a1 (by simpa using a2)
     simp only [c1,aZ] at a1 a2;by_cases c2:j<off+n
     .simp only [c2,aJ] at a1 a2;obtain⟨b1,b2⟩:=hrv.s2.each t1 t2 _ e x a1 (by simpa using a2);refine⟨b1,b2,.inl ?_⟩;have hmem:e∈d.s2.cells:=aS a1;have:∀e∈d.s2.cells,∃e',e=D.s1 e':=by
       intro e he;cases d with
       | agg cs=>simp [D.s2,D.cells] at he;obtain⟨a,_,rfl⟩:=he;exact⟨a,rfl⟩
       | _=>rw [D.s2_of (by intro cs h;cases h)] at he;simp [D.s1,D.cells] at he;subst he;first | exact⟨.any,rfl⟩ | exact⟨.v _,rfl⟩ | exact⟨.sl false _,rfl⟩ | exact⟨.tup _,rfl⟩ | exact⟨.adr _,rfl⟩ | exact⟨.ref _ _,rfl⟩ | exact⟨.clo _ _ _,rfl⟩ | exact⟨.ifc _ _,rfl⟩ | exact⟨.xl _,rfl⟩ | exact⟨.slo _ _ _ _,rfl⟩ | exact⟨.mref _,rfl⟩ | exact⟨.mz,rfl⟩
      obtain⟨e',rfl⟩:=this e hmem;cases e' <;> first | rfl | (exfalso;exact(b1.one b2).1 _ rfl) | (exfalso;exact(b1.one b2).2 _ rfl)
     simp only [c2,aZ] at a1 a2;exact hc j e x a1 (by simpa using a2)
    cases h
   cases h
theorem Nt {o:Oper} {K:St->Prop} (t:TypeId)(parts:Array (Nat×Operand))(hd:dD o st)(ho:o.op= .build t parts)(h:qS P o.dst t parts.toList st K):Does P o st K:=by
 unfold qS at h;split at h
 .rename_i pl zs hpl hzs;split at h
  .rename_i cs hfl;obtain⟨zi,z,z1,z2,rfl,z4⟩:=Vs hzs;refine bL hd _ (fun w g tmps hok=>?_) h;have hfs:=fun place hp=>Bv (M:=g.M) (bs:=g.bs) pl place hp (parts.toList.map fun p=>(p.1,st.rd p.2)) (parts.toList.map fun p=>(p.1,ev tmps p.2)) _ cs z.cells hfl (by simp) (by simp)
    (fun i p q a1 a2=>by
     rw [bP,cU] at a1 a2;obtain⟨x,a1,rfl⟩:=a1;obtain⟨y,a2,rfl⟩:=a2;rw [a1] at a2;simp at a2;subst a2;exact⟨rfl,hok.rd x.2⟩)
    (fun i d x a1 a2=>by
     rw [bP,cQ,a2] at a1;simp at a1;subst a1;refine⟨R.ofV1 _ _ _,z4 x (aS (by simpa using a2)),?_⟩;unfold D.ofV1;split
     .exact .inr rfl
     all_goals exact .inl rfl)
   have fin:∀cells':Array Value,cells'.size=cs.length->(∀(i:Nat) (d:D) (x:Value),cs[i]?=some d->cells'[i]?=some x->R g.M g.bs d x/\x.oneCell'=true/\(d.flat=true\/x= .slice none 0 0))->∀t,SlotOk w g t (.d (.agg cs)) (.agg cells'):=by
    intro cells' c1 c2 t;refine⟨.agg cs cells' c1 (fun i d x a1 a2=>(c2 i d x a1 a2).1) (fun i x a1=>?_),.agg _ cs cells' fun i d x a1 a2=>?_⟩
    .have hl:i<cs.length:=by rw [<- c1];exact(cZ.1 a1).1
     exact(c2 i _ x (aN hl) a1).2.1
    rcases(c2 i d x a1 a2).2.2 with hf | rfl
    .exact .flat _ _ _ hf
    cases hb:d.flat with
    | true=>exact .flat _ _ _ hb
    | false =>
     have hr:=(c2 i d _ a1 a2).1;cases hr with
     | any=>simp [D.flat] at hb
     | v=>simp [D.flat] at hb
     | nil o=>
      cases o with
      | true=>exact .sl _ _ _ (.inl ⟨_,_,rfl⟩)
      | false=>simp [D.flat] at hb
     | xs k es a n cap hn hc hm ha=>
      have:es= []:=jW hn.symm;subst this;exact .xs _ _ _ _ (.inl ⟨rfl,_,rfl⟩)
     | xl=>simp [D.flat] at hb
     | slo=>simp [D.flat] at hb
   have ehd:(parts.map fun x=>(x.1,ev tmps x.2)).toList=parts.toList.map fun p=>(p.1,ev tmps p.2):=by simp
   unfold gR at hpl;split at hpl
   .rename_i fs hu;split at hpl
    .rename_i hall;simp only [aP] at hpl;subst hpl;rw [eJ] at hall;obtain⟨cells',f1,f2,f3⟩:=hfs (fun i=>(fs.toList.map fun f=>(f.offset,P.cellsOf f.type)).toArray[i]?) (fun i p hp=>by simpa using hp);refine⟨.agg cells',?_,fin cells' f2 f3⟩;have hm:=Jo (P:=P) (fun f:Field=>do pure (f.offset,<- sizeOf f.type)) (fun f=>(f.offset,P.cellsOf f.type)) w fs.toList (fun f hf=>by
      have hi:=hall f hf;obtain⟨ti,hti⟩:=Ei.1 hi;simp [bH hti,Program.cellsOf,hti])
     have hm2:(fs.mapM fun f:Field=>do pure (f.offset,<- sizeOf f.type):Sem (Array (Nat×Nat))).run P w= .ok (fs.toList.map fun f=>(f.offset,P.cellsOf f.type)).toArray w:=by
      rw [Gi,Sem.run_map,hm];rfl
     have f1':Instr.fill (fun i=>(fs.toList.map fun f=>(f.offset,P.cellsOf f.type)).toArray[i]?) z.cells (parts.map fun x=>(x.1,ev tmps x.2)).toList=some cells':=by rw [ehd];exact f1
     unfold execOp;simp only [ho,Instr.build,Sem.run_bind,zeroValue,typeInfo,zX,Result.andThen_ok,z1,z2,run_underlying hu,hm2,f1',Sem.run_pure]
    cases hpl
   .rename_i n e hu;split at hpl
    .rename_i hsome;simp only [aP] at hpl;subst hpl;obtain⟨ti,hti⟩:=Ei.1 hsome;have hce:P.cellsOf e=ti.size:=by simp [Program.cellsOf,hti]
     obtain⟨cells',f1,f2,f3⟩:=hfs (fun i=>some (i * ti.size,ti.size)) (fun i p hp=>by
      rw [bP,cU] at hp;obtain⟨j,hj,rfl⟩:=hp;obtain⟨hl,rfl⟩:=aH.1 hj;simp [hce])
     refine⟨.agg cells',?_,fin cells' f2 f3⟩;have f1':Instr.fill (fun i=>some (i * ti.size,ti.size)) z.cells (parts.map fun x=>(x.1,ev tmps x.2)).toList=some cells':=by rw [ehd];exact f1
     unfold execOp;simp only [ho,Instr.build,Sem.run_bind,zeroValue,typeInfo,zX,Result.andThen_ok,z1,z2,run_underlying hu,bH hti,f1',Sem.run_pure]
    cases hpl
   cases hpl
  exact h.elim
 exact h.elim
end
end Go.Vm
