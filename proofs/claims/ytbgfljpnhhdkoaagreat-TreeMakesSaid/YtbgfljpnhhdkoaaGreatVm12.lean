import Derived.Test.YtbgfljpnhhdkoaaGreatVm9
set_option linter.all false
namespace Go.Vm
open Go
variable {bs:List Nat}{g:Gh}{k:Nat}{st:St}{t:TypeId}{val:Nat->Value}{w:World}
section
variable {P:Program}
def lU(P:Program)(dst:Option Tmp)(t:TypeId)(len:Nat)(parts:List (Nat×Operand))(st:St)(K:St->Prop):Prop:=
 match kD P t,dst with
 | some (_,k,_,_),some d=>(parts.map (·.1)=List.range len/\len * k<=2 ^ 24)/\(∀p∈parts,(st.rd p.2).solid=true/\(st.rd p.2).ncells=k)/\K (st.set d (.d (.sl true (parts.map fun p=>(st.rd p.2).s2))))
 | _,_=>False
theorem Mh(k:Nat):∀(vs:List (Nat×Value)) (i0:Nat) (pre:List Value) (cells:Array Value),vs.map (·.1)=(List.range vs.length).map (i0+ ·)->(∀p∈vs,p.2.cells.size=k)->pre.length=i0 * k->cells.size=(i0+vs.length) * k->(∀j,j<i0 * k->cells[j]?=pre[j]?)->
  Instr.fill (fun i=>some (i * k,k)) cells vs=some (pre++vs.flatMap fun p=>p.2.cells.toList).toArray
 | [],i0,pre,cells,_,_,h3,h4,h5=>by
  simp only [Instr.fill,Fe,gH,bF];apply Array.ext_getElem?;intro j;simp only [fZ];by_cases hj:j<i0 * k
  .exact h5 j hj
  simp only [cY,kK] at h4;rw [Array.getElem?_eq_none (by omega),iR (by omega)]
 | (i, v) :: rest, i0, pre, cells, h1, h2, h3, h4, h5 => by
  have hi:i=i0:=by
   have:=congrArg (fun l=>l[0]?) h1;simpa using this
  subst hi;have hv:v.cells.size=k:=h2 (i,v) (by simp);have hsz:i * k+k<=cells.size:=by
   rw [h4];simp only [bJ];have:(i+(rest.length+1)) * k=i * k+k+rest.length * k:=by rw [dB,dB];omega
   omega
  -- the cells behind one part
  have one:∀(xs:List Value) (o:Nat) (cells:Array Value),o+xs.length<=cells.size->(xs.zipIdx o).foldl (fun cs (c,j)=>cs.setIfInBounds j c) cells=(cells.toList.take o++xs++cells.toList.drop (o+xs.length)).toArray:=by
   intro xs;induction xs with
   | nil=>intro o cells _;simp
   | cons x xs ih=>
    intro o cells h;simp only [bJ] at h;simp only [Ab,dO];rw [ih (o+1) _ (by simp;omega)];congr 1;apply qF;intro j;simp only [Qb,bJ];have e1:o+1+xs.length<=(cells.toList.set o x).length:=by simp;omega
    have e2:o+(x::xs).length<=cells.toList.length:=by simp;omega
    have:=fH (cs:=cells.toList.set o x) (ds:=xs) (off:=o+1) (i:=j) e1;rw [this];have:=fH (cs:=cells.toList) (ds:=x::xs) (off:=o) (i:=j) e2;simp only [bJ] at this;rw [this];by_cases c1:j<o
    .simp only [c1,aU,show j<o+1 by omega];rw [cL,aD (by omega)]
    by_cases c2:j=o
    .subst c2;simp only [show j<j+1 by omega,zC,aU,bK,show j<j+(xs.length+1) by omega,mB];rw [cL,aK rfl,aK (by simp;omega)];simp
    simp only [c1,show ¬j<o+1 by omega,bK];by_cases c3:j<o+1+xs.length
    .simp only [c3,show j<o+(xs.length+1) by omega,aU];rw [show j - o=(j - (o+1))+1 by omega];simp
    simp only [c3,show ¬j<o+(xs.length+1) by omega,bK];rw [cL,aD (by omega)]
  have hz:(v.cells.zipIdx.foldl (fun cs (c,j)=>cs.setIfInBounds (i * k+j) c) cells)=(cells.toList.take (i * k)++v.cells.toList++cells.toList.drop (i * k+v.cells.toList.length)).toArray:=by
   rw [<- one v.cells.toList (i * k) cells (by rw [cG,hv];exact hsz)];have:∀(xs:List Value) (o c:Nat) (cells:Array Value),(xs.zipIdx c).foldl (fun cs (x,j)=>cs.setIfInBounds (o+j) x) cells=(xs.zipIdx (o+c)).foldl (fun cs (x,j)=>cs.setIfInBounds j x) cells:=by
    intro xs;induction xs with
    | nil=>intro o c cells;rfl
    | cons x xs ih=>intro o c cells;simp only [Ab,dO];rw [ih o (c+1)];rfl
   rw [<- Array.foldl_toList,Array.toList_zipIdx,this];rfl
  simp only [Instr.fill];rw [aD (by simp [hv];omega),hz];have ih:=Mh k rest (i+1) (pre++v.cells.toList) (cells.toList.take (i * k)++v.cells.toList++cells.toList.drop (i * k+v.cells.toList.length)).toArray
   (by
    have h1':=congrArg List.tail h1;simp only [cC,List.tail_cons,bJ,List.range_succ_eq_map,eA] at h1';rw [h1'];apply cW;intro x _;simp;omega)
   (fun p hp=>h2 p (by simp [hp]))
   (by rw [aZ,h3,cG,hv,dB];omega)
   (by
    rw [dX,iS (by rw [cG,cG,hv];exact hsz),cG,h4];simp only [bJ];congr 1;omega)
   (fun j hj=>by
    rw [fZ,fH (by rw [cG,cG,hv];exact hsz),cG,hv];rw [dB,Ac] at hj;by_cases c1:j<i * k
    .rw [aK c1,bC (by omega)];rw [dM];exact h5 j c1
    rw [aD c1,aK hj,bX (by omega),h3])
  rw [ih];simp [gG]
theorem xM (hk:0<k):∀(vs:List Value),(∀v∈vs,v.cells.size=k)->∀j,(vs.flatMap fun v=>v.cells.toList)[j]?=(vs[j / k]?).bind fun v=>v.cells[j % k]?
 | [],_,j=>by simp
 | v :: vs, h, j => by
  have hv:v.cells.toList.length=k:=by rw [cG];exact h v (by simp)
  rw [gG];by_cases hj:j<k
  .rw [bC (by omega),yW hj,sQ hj];simp
  rw [bX (by omega),hv,xM hk vs (fun x hx=>h x (by simp [hx])) (j - k)];have e1:j / k=(j - k) / k+1:=by
   rw [show j=(j - k)+k by omega,Nat.add_div_right _ hk,show j - k+k - k=j - k by omega]
  have e2:j % k=(j - k) % k:=by
   rw [show j=(j - k)+k by omega,Gi,show j - k+k - k=j - k by omega]
  rw [e1,e2];simp
theorem lK :∀(vs:List Value),(∀v∈vs,v.cells.size=k)->(vs.flatMap fun v=>v.cells.toList).length=vs.length * k
 | [],_=>by simp
 | v::vs,h=>by
  rw [gG,aZ,lK vs (fun x hx=>h x (by simp [hx])),cG,h v (by simp),bJ,dB];omega
theorem zL (hk:0<k)(vs:List Value)(h:∀v∈vs,v.cells.size=k) {i j:Nat} {v c:Value} (hv:vs[i]?=some v)(hj:v.cells[j]?=some c):(vs.flatMap fun v=>v.cells.toList)[i * k+j]?=some c:=by
 have hjk:j<k:=by
  have:=(dL.1 hj).1
  rwa [h v (bE hv)] at this
 rw [xM hk vs h];have e1:(i * k+j) / k=i:=by rw [qU,Nat.mul_add_div hk,yW hjk];omega
 have e2:(i * k+j) % k=j:=by rw [qU,Nat.mul_add_mod,sQ hjk]
 rw [e1,e2,hv];exact hj
theorem Ok.fresh (h:Ok w g st val)(d:Nat)(E:TypeId)(es:List D)(vs:List Value)(k:Nat)(hk:0<k)(hl:vs.length=es.length)(hm:es.length<=maxLen)
  (hr:∀(i:Nat) (e:D) (x:Value),es[i]?=some e->vs[i]?=some x->R g.M g.bs e x) (hs:∀(i:Nat) (e:D),es[i]?=some e->e.ncells=k)
  (hx:∀v∈vs,v.cells.size=k/\∀c∈v.cells.toList,c.oneCell'=true) (cells:Array Value) (hcells:cells.toList=vs.flatMap fun v=>v.cells.toList):
  ∃g',g'.bl=g.bl/\Fr w g (w.alloc (.cells cells E)) g'/\Ok (w.alloc (.cells cells E)) g' (st.set d (.d (.sl true es))) (fun u=>if u=d then .slice (some ⟨w.heap.size,0,none⟩) es.length es.length else val u):=by
 obtain⟨k1,k2⟩:=(h.forget d).known cells cells E (some (.slot d, [])) (fun _ _ h=>h);have hsz:∀v∈vs,v.cells.size=k:=fun v hv=>(hx v hv).1;refine⟨{ g with M:=g.M.add w.heap.size cells,X:=fun b=>if b=w.heap.size then some (.slot d, [])else g.X b },rfl,k2,?_⟩;have:=k1.set d (.d (.sl true es)) (.slice (some ⟨w.heap.size,0,none⟩) es.length es.length) ⟨?_,?_⟩
 .have e:((st.set d .any).set d (.d (.sl true es)))=st.set d (.d (.sl true es)):=by
   simp only [St.set];congr 1;funext u;split <;> rfl
  rwa [e] at this
 .refine .sl true es _ 0 _ _ k vs hl rfl hk (aW _) hm (fun i e x a1 a2=>(hr i e x a1 a2).mono k2.mono (fun _ _ h=>h)) hs (fun i x a=>⟨hsz x (bE a),fun j c hj=>?_⟩);have hc:c∈x.cells.toList:=bE (by simpa using hj);refine⟨(hx x (bE a)).2 c hc,?_⟩;simp only [Mem.add,aU,eL];have:=zL hk vs hsz a hj;rw [<- hcells] at this;simpa using this
 refine .sl _ _ _ ?_;cases es with
 | nil=>exact .inl ⟨_,_,rfl⟩
 | cons e es =>
  have hclen:cells.size=(e::es).length * k:=by
   rw [<- cG,hcells,lK vs hsz,hl]
  refine .inr ⟨w.heap.size,_,_,k,cells,E,rfl,by simp,by simp,vC w _,hk,hclen,rfl,aW _,hm,fun o ho=>?_,hs⟩;simp only [Mem.add,aU];exact Array.getElem?_eq_none (by omega)
theorem Ra {M:Mem} {d:D} {x:Value} (h:R M bs d x)(h1:d.solid=true):∀c∈x.cells.toList,c.oneCell'=true:=by
 obtain⟨s1,s2⟩:=kW h1;intro c hc;obtain⟨i,hi⟩:=eW hc;have hi':x.cells[i]?=some c:=by simpa using hi
 have hl:i<d.cells.length:=by
  have:=(dL.1 hi').1;rw [h.cells_len s1 s2,mK] at this;exact this
 exact(h.each s1 s2 i _ c (aS hl) hi').2
theorem uM(d:D):d.s2.ncells=d.ncells:=by
 cases d <;> simp [D.s2,D.s1,D.ncells]
theorem Iq {o:Oper} {K:St->Prop} (t:TypeId)(len:Nat)(parts:Array (Nat×Operand))(hd:eF o st)(ho:o.op= .buildSlice t len parts)(h:lU P o.dst t len parts.toList st K):Does P o st K:=by
 unfold lU at h;split at h
 .rename_i e k by_ z d he hdst;obtain⟨⟨hlen,hsmall⟩,hparts,hK⟩:=h;obtain⟨ti,zv,h1,h2,h3,h4,h5,h6,h7,h8⟩:=jI he;refine cH hd fun w g tmps hok=>?_;have hpl:parts.toList.length=len:=by have:=congrArg List.length hlen;simpa using this
  have hR:∀(i:Nat) (e:D) (x:Value),(parts.toList.map fun p=>(st.rd p.2).s2)[i]?=some e->(parts.toList.map fun p=>ev tmps p.2)[i]?=some x->R g.M g.bs e x/\e.solid=true/\e.ncells=k:=by
   intro i e x a1 a2;rw [cF,dG] at a1 a2;obtain⟨p,a1,rfl⟩:=a1;obtain⟨p',a2,rfl⟩:=a2;rw [a1] at a2;simp at a2;subst a2;obtain⟨b1,b2⟩:=hparts p (bE a1);exact⟨(hok.rd p.2).s2,Jp b1,by rw [uM];exact b2⟩
  have hsz:∀v∈parts.toList.map fun p=>ev tmps p.2,v.cells.size=k/\∀c∈v.cells.toList,c.oneCell'=true:=by
   intro v hv;obtain⟨i,hi⟩:=eW hv;have hl:i<(parts.toList.map fun p=>(st.rd p.2).s2).length:=by
    have:=(aP.1 hi).1;simpa using this
   obtain⟨r1,r2,r3⟩:=hR i _ v (aS hl) hi;obtain⟨s1,s2⟩:=kW r2;exact⟨by rw [r1.cells_len s1 s2];exact r3,Ra r1 r2⟩
  obtain⟨g',hbl,k2,k1⟩:=hok.fresh d e (parts.toList.map fun p=>(st.rd p.2).s2) (parts.toList.map fun p=>ev tmps p.2) k h8 (by simp) (by
    have hb:len<=len * k:=Nat.le_mul_of_pos_right len h8;unfold maxLen;simp only [bQ,hpl];omega)
   (fun i e x a1 a2=>(hR i e x a1 a2).1) (fun i e a1=>by
    rw [cF,dG] at a1;obtain⟨p,a1,rfl⟩:=a1;rw [uM];exact(hparts p (bE a1)).2) hsz (parts.toList.flatMap fun p=>(ev tmps p.2).cells.toList).toArray (by simp [List.flatMap_map])
  have hel:(parts.toList.map fun p=>(st.rd p.2).s2).length=len:=by rw [bQ];exact hpl
  rw [hel] at k1;refine ⟨_, _, g', _, .inl ?_, hK, k2, by rw [hdst]; exact k1, rfl, by rw [hbl]; simp⟩;have hfill : ∀ cells : Array Value, cells.size = len * k -> Instr.fill (fun i => some (i * k, k)) cells (parts.toList.map fun p => (p.1, ev tmps p.2)) = some (parts.toList.flatMap fun p => (ev tmps p.2).cells.toList).toArray := by
   intro cells hc;have:=Mh k (parts.toList.map fun p=>(p.1,ev tmps p.2)) 0 [] cells (by simp only [eA,bQ,hpl];rw [show(fun(x:Nat×Value)=>x.1) ∘ (fun(p:Nat×Operand)=>(p.1,ev tmps p.2))=fun p=>p.1 from rfl,hlen];simp)
    (fun p hp=>by
     obtain⟨q,hq,rfl⟩:=aV.1 hp;exact(hsz _ (aV.2 ⟨q,hq,rfl⟩)).1) (by simp) (by simp [hc,hpl]) (fun j hj=>by omega)
   rw [this];simp [List.flatMap_map]
  have hn:¬(len * ti.size > 2 ^ 24):=by rw [h5];omega
  by_cases hz0:len * k=0
  .have hf:=hfill (Array.map (fun _=>default) (Array.range 0)) (by simp [hz0]);have:(parts.map fun x=>(x.1,ev tmps x.2)).toList=parts.toList.map fun p=>(p.1,ev tmps p.2):=by simp
   simp [execOp,ho,Instr.buildSlice,run_underlying h1,cD h2,h5,hz0];rw [hf];simp [newRow,newObj];rfl
  have hf:=hfill ((Array.range (len * k)).map (fun x=>z[x % z.size]!)) (by simp);simp [execOp,ho,Instr.buildSlice,run_underlying h1,cD h2,h5,hz0,zeroValue,typeInfo,h2,h3,h4,show ¬(16777216<len * k) by omega];rw [hf];simp [newRow,newObj];rfl
 exact h.elim
end
section
variable {P:Program}
def pE(P:Program)(t:TypeId):Option (List (Nat×Nat)):=
 match P.underlying t with
 | some (.struct fs)=>if fs.toList.all (fun f=>(P.info? f.type).isSome)then some (fs.toList.map fun f=>(f.offset,P.cellsOf f.type))else none
 | some (.array n e)=>if(P.info? e).isSome then some ((List.range n).map fun i=>(i * P.cellsOf e,P.cellsOf e))else none
 | _=>none
def Ox(pl:List (Nat×Nat)):List D->List (Nat×D)->Option (List D)
 | cs, []=>some cs
 | cs,(i,d)::r=>match pl[i]? with
  | some (off,n)=>if d.solid=true/\d.ncells=n/\off+n<=cs.length then Ox pl (dZ cs off d.s2.cells) r else none
  | none=>none
def vV(P:Program)(dst:Option Tmp)(t:TypeId)(parts:List (Nat×Operand))(st:St)(K:St->Prop):Prop:=
 match pE P t,fC P t with
 | some pl,some zs=>match Ox pl zs (parts.map fun p=>(p.1,st.rd p.2))with
  | some cs=>K (st.put dst (.d (.agg cs)))
  | none=>False
 | _,_=>False
theorem aE2 {cs:List D} (h:fC P t=some cs):∃i z,P.info? t=some i/\i.zero=some z/\cs=z.cells.toList.map D.ofV1/\∀x∈z.cells.toList,x.oneCell'=true:=by
 unfold fC at h;split at h
 .rename_i i hi;split at h
  .rename_i z hz;split at h
   .rename_i hall;simp only [bF] at h;refine⟨i,z,hi,hz,h.symm,fun x hx=>?_⟩;rw [Fz] at hall;obtain⟨j,hj⟩:=eW hx;rw [dM] at hj;obtain⟨hl,rfl⟩:=dL.1 hj;exact hall j hl
   cases h
  cases h
 cases h
theorem Vc {α β:Type} (f:α->Sem β)(h:α->β)(w:World):∀(l:List α),(∀x∈l,(f x).run P w= .ok (h x) w)->(l.mapM f).run P w= .ok (l.map h) w
 | [],_=>rfl
 | x::l,hl=>by
  simp only [List.mapM_cons,Sem.run_bind,hl x (by simp),Result.andThen_ok,Vc f h w l (fun y hy=>hl y (by simp [hy])),Sem.run_pure,cC]
theorem Xg(v:Value)(off:Nat)(cells:Array Value)(h:off+v.cells.size<=cells.size):
  (v.cells.zipIdx.foldl (fun cs (c,j)=>cs.setIfInBounds (off+j) c) cells)=(cells.toList.take off++v.cells.toList++cells.toList.drop (off+v.cells.toList.length)).toArray:=by
 have:=Mh v.cells.size [(0,v)] 0 [] (cells.extract off (off+v.cells.size)) (by simp) (by simp) (by simp) (by simp;omega) (by simp);have one:∀(xs:List Value) (o:Nat) (cells:Array Value),o+xs.length<=cells.size->(xs.zipIdx o).foldl (fun cs (c,j)=>cs.setIfInBounds j c) cells=(cells.toList.take o++xs++cells.toList.drop (o+xs.length)).toArray:=by
  intro xs;induction xs with
  | nil=>intro o cells _;simp
  | cons x xs ih=>
   intro o cells h;simp only [bJ] at h;simp only [Ab,dO];rw [ih (o+1) _ (by simp;omega)];congr 1;apply qF;intro j;simp only [Qb,bJ];have e1:o+1+xs.length<=(cells.toList.set o x).length:=by simp;omega
   have e2:o+(x::xs).length<=cells.toList.length:=by simp;omega
   rw [fH (cs:=cells.toList.set o x) (ds:=xs) (off:=o+1) (i:=j) e1];have:=fH (cs:=cells.toList) (ds:=x::xs) (off:=o) (i:=j) e2;simp only [bJ] at this;rw [this];by_cases c1:j<o
   .simp only [c1,aU,show j<o+1 by omega];rw [cL,aD (by omega)]
   by_cases c2:j=o
   .subst c2;simp only [show j<j+1 by omega,zC,aU,bK,show j<j+(xs.length+1) by omega,mB];rw [cL,aK rfl,aK (by simp;omega)];simp
   simp only [c1,show ¬j<o+1 by omega,bK];by_cases c3:j<o+1+xs.length
   .simp only [c3,show j<o+(xs.length+1) by omega,aU];rw [show j - o=(j - (o+1))+1 by omega];simp
   simp only [c3,show ¬j<o+(xs.length+1) by omega,bK];rw [cL,aD (by omega)]
 have shift:∀(xs:List Value) (o c:Nat) (cells:Array Value),(xs.zipIdx c).foldl (fun cs (x,j)=>cs.setIfInBounds (o+j) x) cells=(xs.zipIdx (o+c)).foldl (fun cs (x,j)=>cs.setIfInBounds j x) cells:=by
  intro xs;induction xs with
  | nil=>intro o c cells;rfl
  | cons x xs ih=>intro o c cells;simp only [Ab,dO];rw [ih o (c+1)];rfl
 rw [<- one v.cells.toList off cells (by rw [cG];exact h),<- Array.foldl_toList,Array.toList_zipIdx,shift];rfl
theorem Lj {M:Mem} (pl:List (Nat×Nat))(place:Nat->Option (Nat×Nat))(hp:∀(i:Nat) (p:Nat×Nat),pl[i]?=some p->place i=some p):∀(parts:List (Nat×D)) (cJ:List (Nat×Value)) (cs cs':List D) (cells:Array Value),
  Ox pl cs parts=some cs'->cells.size=cs.length->cJ.length=parts.length->(∀(i:Nat) (p:Nat×D) (q:Nat×Value),parts[i]?=some p->cJ[i]?=some q->q.1=p.1/\R M bs p.2 q.2)->
  (∀(i:Nat) (d:D) (x:Value),cs[i]?=some d->cells[i]?=some x->R M bs d x/\x.oneCell'=true/\(d.flat=true\/x= .slice none 0 0))->
  ∃cells',Instr.fill place cells cJ=some cells'/\cells'.size=cs'.length/\∀(i:Nat) (d:D) (x:Value),cs'[i]?=some d->cells'[i]?=some x->R M bs d x/\x.oneCell'=true/\(d.flat=true\/x= .slice none 0 0)
 | [],cJ,cs,cs',cells,h,hl,hv,_,hc=>by
  simp only [Ox,bF] at h;subst h;have:cJ= []:=nO (by simpa using hv);subst this;exact⟨cells,rfl,hl,hc⟩
 | (i, d) :: parts, cJ, cs, cs', cells, h, hl, hv, hr, hc => by
  match cJ,hv with
  | (i', v) :: cJ, hv =>
   obtain⟨e1,hrv⟩:=hr 0 (i,d) (i',v) rfl rfl;simp only at e1 hrv;subst e1;simp only [Ox] at h;split at h
   .rename_i off n hpl;split at h
    .rename_i hcond;obtain⟨hs,hn,hle⟩:=hcond;obtain⟨s1,s2⟩:=kW hs;have hsz:v.cells.size=n:=by rw [hrv.cells_len s1 s2];exact hn
     have hfit:off+v.cells.size<=cells.size:=by rw [hsz,hl];exact hle
     simp only [Instr.fill,hp _ _ hpl];rw [aD (by simp only [hsz];simp;omega),Xg v off cells hfit];have hd2:d.s2.cells.length=n:=by rw [<- mK,uM];exact hn
     obtain⟨t1,t2⟩:=kW (Jp hs);refine Lj pl place hp parts cJ (dZ cs off d.s2.cells) cs' _ h ?_ (by simpa using hv) (fun j p q a1 a2=>hr (j+1) p q (by simpa using a1) (by simpa using a2)) (fun j e x a1 a2=>?_)
     .rw [dX,iS (by rw [cG,cG];exact hfit)];unfold dZ;rw [iS (by rw [hd2];exact hle),cG,hl]
     unfold dZ at a1;rw [fH (by rw [hd2];exact hle),hd2] at a1;rw [fZ,fH (by rw [cG,cG];exact hfit),cG,hsz] at a2;by_cases c1:j<off
     .simp only [c1,aU] at a1 a2;exact hc j e x a1 (by simpa using a2)
     simp only [c1,bK] at a1 a2;by_cases c2:j<off+n
     .simp only [c2,aU] at a1 a2;obtain⟨b1,b2⟩:=hrv.s2.each t1 t2 _ e x a1 (by simpa using a2);refine⟨b1,b2,.inl ?_⟩;have hmem:e∈d.s2.cells:=bE a1;have:∀e∈d.s2.cells,∃e',e=D.s1 e':=by
       intro e he;cases d with
       | agg cs=>simp [D.s2,D.cells] at he;obtain⟨a,_,rfl⟩:=he;exact⟨a,rfl⟩
       | _=>rw [D.s2_of (by intro cs h;cases h)] at he;simp [D.s1,D.cells] at he;subst he;first | exact⟨.any,rfl⟩ | exact⟨.v _,rfl⟩ | exact⟨.sl false _,rfl⟩ | exact⟨.tup _,rfl⟩ | exact⟨.adr _,rfl⟩ | exact⟨.ref _ _,rfl⟩ | exact⟨.clo _ _ _,rfl⟩ | exact⟨.ifc _ _,rfl⟩ | exact⟨.xl _,rfl⟩ | exact⟨.slo _ _ _ _,rfl⟩ | exact⟨.mref _,rfl⟩ | exact⟨.mz,rfl⟩
      obtain⟨e',rfl⟩:=this e hmem;cases e' <;> first | rfl | (exfalso;exact(b1.one b2).1 _ rfl) | (exfalso;exact(b1.one b2).2 _ rfl)
     simp only [c2,bK] at a1 a2;exact hc j e x a1 (by simpa using a2)
    cases h
   cases h
theorem aAv {o:Oper} {K:St->Prop} (t:TypeId)(parts:Array (Nat×Operand))(hd:eF o st)(ho:o.op= .build t parts)(h:vV P o.dst t parts.toList st K):Does P o st K:=by
 unfold vV at h;split at h
 .rename_i pl zs hpl hzs;split at h
  .rename_i cs hfl;obtain⟨zi,z,z1,z2,rfl,z4⟩:=aE2 hzs;refine cM hd _ (fun w g tmps hok=>?_) h;have hfs:=fun place hp=>Lj (M:=g.M) (bs:=g.bs) pl place hp (parts.toList.map fun p=>(p.1,st.rd p.2)) (parts.toList.map fun p=>(p.1,ev tmps p.2)) _ cs z.cells hfl (by simp) (by simp)
    (fun i p q a1 a2=>by
     rw [cF,dG] at a1 a2;obtain⟨x,a1,rfl⟩:=a1;obtain⟨y,a2,rfl⟩:=a2;rw [a1] at a2;simp at a2;subst a2;exact⟨rfl,hok.rd x.2⟩)
    (fun i d x a1 a2=>by
     rw [cF,dM,a2] at a1;simp at a1;subst a1;refine⟨R.ofV1 _ _ _,z4 x (bE (by simpa using a2)),?_⟩;unfold D.ofV1;split
     .exact .inr rfl
     all_goals exact .inl rfl)
   have fin:∀cells':Array Value,cells'.size=cs.length->(∀(i:Nat) (d:D) (x:Value),cs[i]?=some d->cells'[i]?=some x->R g.M g.bs d x/\x.oneCell'=true/\(d.flat=true\/x= .slice none 0 0))->∀t,SlotOk w g t (.d (.agg cs)) (.agg cells'):=by
    intro cells' c1 c2 t;refine⟨.agg cs cells' c1 (fun i d x a1 a2=>(c2 i d x a1 a2).1) (fun i x a1=>?_),.agg _ cs cells' fun i d x a1 a2=>?_⟩
    .have hl:i<cs.length:=by rw [<- c1];exact(dL.1 a1).1
     exact(c2 i _ x (aS hl) a1).2.1
    rcases(c2 i d x a1 a2).2.2 with hf | rfl
    .exact .flat _ _ _ hf
    cases hb:d.flat with
    | true=>exact .flat _ _ _ hb
    | false =>
     have hr:=(c2 i d _ a1 a2).1;cases hr with
     | any=>simp [D.flat] at hb
     | v=>simp [D.flat] at hb
     | nil o=>
      cases o with
      | true=>exact .sl _ _ _ (.inl ⟨_,_,rfl⟩)
      | false=>simp [D.flat] at hb
     | xs k es a n cap hn hc hm ha=>
      have:es= []:=nO hn.symm;subst this;exact .xs _ _ _ _ (.inl ⟨rfl,_,rfl⟩)
     | xl=>simp [D.flat] at hb
     | slo=>simp [D.flat] at hb
   have ehd:(parts.map fun x=>(x.1,ev tmps x.2)).toList=parts.toList.map fun p=>(p.1,ev tmps p.2):=by simp
   unfold pE at hpl;split at hpl
   .rename_i fs hu;split at hpl
    .rename_i hall;simp only [bF] at hpl;subst hpl;rw [gF] at hall;obtain⟨cells',f1,f2,f3⟩:=hfs (fun i=>(fs.toList.map fun f=>(f.offset,P.cellsOf f.type)).toArray[i]?) (fun i p hp=>by simpa using hp);refine⟨.agg cells',?_,fin cells' f2 f3⟩;have hm:=Vc (P:=P) (fun f:Field=>do pure (f.offset,<- sizeOf f.type)) (fun f=>(f.offset,P.cellsOf f.type)) w fs.toList (fun f hf=>by
      have hi:=hall f hf;obtain⟨ti,hti⟩:=Pt.1 hi;simp [cD hti,Program.cellsOf,hti])
     have hm2:(fs.mapM fun f:Field=>do pure (f.offset,<- sizeOf f.type):Sem (Array (Nat×Nat))).run P w= .ok (fs.toList.map fun f=>(f.offset,P.cellsOf f.type)).toArray w:=by
      rw [Ns,Sem.run_map,hm];rfl
     have f1':Instr.fill (fun i=>(fs.toList.map fun f=>(f.offset,P.cellsOf f.type)).toArray[i]?) z.cells (parts.map fun x=>(x.1,ev tmps x.2)).toList=some cells':=by rw [ehd];exact f1
     unfold execOp;simp only [ho,Instr.build,Sem.run_bind,zeroValue,typeInfo,Hr,Result.andThen_ok,z1,z2,run_underlying hu,hm2,f1',Sem.run_pure]
    cases hpl
   .rename_i n e hu;split at hpl
    .rename_i hsome;simp only [bF] at hpl;subst hpl;obtain⟨ti,hti⟩:=Pt.1 hsome;have hce:P.cellsOf e=ti.size:=by simp [Program.cellsOf,hti]
     obtain⟨cells',f1,f2,f3⟩:=hfs (fun i=>some (i * ti.size,ti.size)) (fun i p hp=>by
      rw [cF,dG] at hp;obtain⟨j,hj,rfl⟩:=hp;obtain⟨hl,rfl⟩:=aP.1 hj;simp [hce])
     refine⟨.agg cells',?_,fin cells' f2 f3⟩;have f1':Instr.fill (fun i=>some (i * ti.size,ti.size)) z.cells (parts.map fun x=>(x.1,ev tmps x.2)).toList=some cells':=by rw [ehd];exact f1
     unfold execOp;simp only [ho,Instr.build,Sem.run_bind,zeroValue,typeInfo,Hr,Result.andThen_ok,z1,z2,run_underlying hu,cD hti,f1',Sem.run_pure]
    cases hpl
   cases hpl
  exact h.elim
 exact h.elim
end
section
variable {P:Program}
theorem Ok.freshCap (h:Ok w g st val)(d:Nat)(E:TypeId)(es:List D)(vs:List Value)(k cap:Nat)(hk:0<k)(hl:vs.length=es.length)(hc:es.length<=cap)(hm:cap<=maxLen)(hne:es≠ [])
  (hr:∀(i:Nat) (e:D) (x:Value),es[i]?=some e->vs[i]?=some x->R g.M g.bs e x) (hs:∀(i:Nat) (e:D),es[i]?=some e->e.ncells=k)
  (hx:∀v∈vs,v.cells.size=k/\∀c∈v.cells.toList,c.oneCell'=true) (cells:Array Value) (hcells:cells.toList.take (es.length * k)=vs.flatMap fun v=>v.cells.toList) (hsize:cells.size=cap * k):
  ∃g',g'.bl=g.bl/\Fr w g (w.alloc (.cells cells E)) g'/\Ok (w.alloc (.cells cells E)) g' (st.set d (.d (.sl true es))) (fun u=>if u=d then .slice (some ⟨w.heap.size,0,none⟩) es.length cap else val u):=by
 have hsz:∀v∈vs,v.cells.size=k:=fun v hv=>(hx v hv).1;have hfl:(vs.flatMap fun v=>v.cells.toList).length=es.length * k:=by rw [lK vs hsz,hl]
 obtain⟨k1,k2⟩:=(h.forget d).known cells (vs.flatMap fun v=>v.cells.toList).toArray E (some (.slot d, [])) (fun o c ho=>by
  rw [fZ,<- hcells,eN] at ho;split at ho
  .simpa using ho
  cases ho)
 refine⟨{ g with M:=g.M.add w.heap.size (vs.flatMap fun v=>v.cells.toList).toArray,X:=fun b=>if b=w.heap.size then some (.slot d, [])else g.X b },rfl,k2,?_⟩;have:=k1.set d (.d (.sl true es)) (.slice (some ⟨w.heap.size,0,none⟩) es.length cap) ⟨?_,?_⟩
 .have e:((st.set d .any).set d (.d (.sl true es)))=st.set d (.d (.sl true es)):=by
   simp only [St.set];congr 1;funext u;split <;> rfl
  rwa [e] at this
 .refine .sl true es _ 0 _ _ k vs hl rfl hk hc hm (fun i e x a1 a2=>(hr i e x a1 a2).mono k2.mono (fun _ _ h=>h)) hs (fun i x a=>⟨hsz x (bE a),fun j c hj=>?_⟩);have hcm:c∈x.cells.toList:=bE (by simpa using hj);refine⟨(hx x (bE a)).2 c hcm,?_⟩;simp only [Mem.add,aU,eL,fZ];exact zL hk vs hsz a hj
 refine .sl _ _ _ (.inr ⟨w.heap.size,_,_,k,cells,E,rfl,hne,by simp,vC w _,hk,hsize,rfl,hc,hm,fun o ho=>?_,hs⟩);simp only [Mem.add,aU,fZ];exact iR (by rw [hfl];exact ho)
theorem vT {t2 e e2 ty:TypeId} (ht:P.underlying t=some (.slice e))(ht2:P.underlying t2=some (.slice e2))(a b:Value)(w:World):(Builtin.append_ #[t,t2] ty #[a,b]).run P w=(Builtin.append_ #[t,t] ty #[a,b]).run P w:=by
 cases a <;> simp [Builtin.append_,run_underlying ht,run_underlying ht2]
theorem vG(w:World)(t ty e E:TypeId)(i:TypeInfo)(ht:P.underlying t=some (.slice e))(hi:P.info? e=some i)
  (g sLen sCap:Nat) (cur:Array Value) (hg:w.heap[g]?=some (.cells cur E (0,0)))
  (a:Addr) (m c:Nat) (news:List Value) (hl:news.length=m * i.size) (hnews:∀j u,news[j]?=some u->w.cell? (a.add j)=some u) (h1:∀u∈news,u.oneCell'=true)
  (hroom:sLen+m<=sCap) (hfit:sLen * i.size+news.length<=cur.size):
  (Builtin.append_ #[t,t] ty #[.slice (some ⟨g,0,none⟩) sLen sCap,.slice (some a) m c]).run P w=
   .ok (.slice (some ⟨g,0,none⟩) (sLen+m) sCap) (w.setRow g (cur.toList.take (sLen * i.size)++news++cur.toList.drop (sLen * i.size+news.length)).toArray):=by
 have hf:=run_firstCells_some (P:=P) w i.size m a m c news hl hnews;have hst:=run_storeCells_at P g (sLen * i.size) E news 0 cur w hg (by simpa using hfit) h1;simp only [kK] at hst;simp [Builtin.append_,run_underlying ht,sizeOf,typeInfo,hi,Builtin.lenOf,hroom,hf,Addr.add_lit,hst]
theorem Dv (hok:Ok w g st val) {o:Bool} {es:List D} {v:Value} (hr:R g.M g.bs (.sl o es) v)(hk:∀d∈es,d.ncells=k)(hne:es≠ []):
  ∃(b off cap:Nat) (vs:List Value),v= .slice (some ⟨b,off,none⟩) es.length cap/\vs.length=es.length/\es.length<=cap/\cap<=maxLen/\0<k/\(∀(i:Nat) (d:D) (x:Value),es[i]?=some d->vs[i]?=some x->R g.M g.bs d x)/\
   (∀x:Value,x∈vs->x.cells.size=k/\∀c:Value,c∈x.cells.toList->c.oneCell'=true)/\(∀(j:Nat) (c:Value),(vs.flatMap fun v=>v.cells.toList)[j]?=some c->w.cell? ((⟨b,off,none⟩:Addr).add j)=some c/\g.M b (off+j)=some c):=by
 cases hr with
 | nil o=>exact absurd rfl hne
 | emp o a cap hm=>exact absurd rfl hne
 | sl o' es b off n cap k' vs hl hn hk' hc hm hrr hss hxx =>
  have hkk:k'=k:=by
   have h0:0<es.length:=by cases es <;> simp_all
   rw [<- hss 0 _ (aS h0)];exact hk _ (bS h0)
  subst hkk;have hsz:∀x∈vs,x.cells.size=k':=fun x hx=>by
   obtain⟨i,hi⟩:=eW hx;exact(hxx i x hi).1
  refine⟨b,off,cap,vs,by rw [hn],hl,by omega,hm,hk',hrr,fun x hx=>⟨hsz x hx,fun c hc=>?_⟩,fun j c hj=>?_⟩
  .obtain⟨i,hi⟩:=eW hx;obtain⟨j,hj⟩:=eW hc;exact((hxx i x hi).2 j c (by simpa using hj)).1
  rw [xM hk' vs hsz] at hj;rw [mC] at hj;obtain⟨x,h1,h2⟩:=hj;have:=((hxx _ x h1).2 _ c h2).2;rw [show j / k' * k'+j % k'=j by rw [qU];exact yD j k'] at this;exact⟨by rw [Addr.add_none];exact hok.mem _ _ _ this,this⟩
def tK(P:Program)(dst:Option Tmp)(t t2:TypeId)(s x:Operand)(st:St)(K:St->Prop):Prop:=
 match kD P t,dst,st.rd s,st.rd x with
 | some (_,k,by_,_),some d,.sl true es,.sl _ xs=>
  (∃e2,P.underlying t2=some (.slice e2))/\((es.length+xs.length) * by_<=140737488355328/\es.length+xs.length<=maxLen)/\(∀d∈es,d.ncells=k)/\(∀d∈xs,d.ncells=k)/\
  match s with
  | .tmp ts=>ts≠d/\K ((st.set ts (.d (.sl false es))).set d (.d (.sl true (es++xs))))
  | .const (.slice none 0 0)=>K (st.set d (.d (.sl true (es++xs))))
  | _=>False
 | _,_,_,_=>False
theorem St.set_set(st:St)(a b:Nat)(x y z:Slot):((st.set a x).set b y).set b z=(st.set a x).set b z:=by
 simp only [St.set];congr 1;funext u;split <;> rfl
theorem Im {tmps:Array Value} (hok:Ok w g st (cJ tmps)) {e:TypeId} {by_:Nat} {z:Array Value} {ti:TypeInfo} {zv:Value} (h1:P.underlying t=some (.slice e))(h2:P.info? e=some ti)(h3:ti.zero=some zv)(h5:ti.size=k)(h6:ti.bytes=by_)(h7:zv.cells.size=k)(h8:0<k)
  (ts d:Nat) (hne:ts≠d) (o:Bool) (es xs:List D) (hs:st.env ts= .d (.sl true es)) (vx:Value) (hvx:R g.M g.bs (.sl o xs) vx) (hb:(es.length+xs.length) * by_<=140737488355328) (hm:es.length+xs.length<=maxLen) (hes:∀d∈es,d.ncells=k) (hxs:∀d∈xs,d.ncells=k) (ty:TypeId):
  ∃v w' g',(Builtin.append_ #[t,t] ty #[cJ tmps ts,vx]).run P w= .ok v w'/\g'.bl=g.bl/\Fr w g w' g'/\Ok w' g' ((st.set ts (.d (.sl false es))).set d (.d (.sl true (es++xs)))) (fun u=>if u=d then v else cJ tmps u):=by
 have hsl:=hok.slot ts;rw [hs] at hsl;have hR:=hsl.1;have hO:aB6 w g.M g.X (.slot ts, []) es (cJ tmps ts):=by
  have:=hsl.2;cases this with
  | sl p es v ho=>exact ho
  | flat p d v hf=>simp [D.flat] at hf
 generalize hv:cJ tmps ts=vs at hR hO;subst h5;subst h6;by_cases hx0:xs= []
 .-- nothing is added
  subst hx0;have hk:=hok.take ts d hne _ hs (by intro cs h;cases h);refine⟨vs,w, { g with X:=gT (kZ (.slot ts) [] (.slot d) []) g.X },?_,rfl,Fr.ren w g (kZ (.slot ts) [] (.slot d) []),?_⟩
  .have hz:∀n cap,(vx= .slice none 0 0\/∃b off,vx= .slice (some ⟨b,off,none⟩) n cap/\n=0)->∃a c,vx= .slice a 0 c:=by
    rintro n cap (rfl | ⟨b,off,rfl,rfl⟩)
    .exact⟨_,_,rfl⟩
    exact⟨_,_,rfl⟩
   obtain⟨a,c,rfl⟩:∃a c,vx= .slice a 0 c:=by
    cases hvx with
    | nil=>exact⟨_,_,rfl⟩
    | emp o a cap hm=>exact⟨_,_,rfl⟩
    | sl o' es b off n cap k vs hl hn=>subst hn;exact⟨_,_,rfl⟩
   have hfc:∀w,(Builtin.firstCells ti.size 0 (.slice a 0 c)).run P w= .ok #[] w:=by
    intro w;cases a with
    | none=>simp [Builtin.firstCells]
    | some a=>simp [Builtin.firstCells,loadCells,loadCellsFrom]
   cases hR with
   | nil=>simp [Builtin.append_,run_underlying h1,cD h2,Builtin.lenOf,hfc]
   | emp o a cap hm=>simp [Builtin.append_,run_underlying h1,cD h2,Builtin.lenOf,hfc,storeCells]
   | sl o' es' b off n cap k vs hl hn hk hc=>
    simp [Builtin.append_,run_underlying h1,cD h2,Builtin.lenOf,hfc,hc,storeCells]
  rw [gH];have e:(fun u=>if u=d then cJ tmps ts else cJ tmps u)=(fun u=>if u=d then vs else cJ tmps u):=by rw [hv]
  rw [<- e];exact hk
 obtain⟨bx,offx,capx,vvx,rfl,l1,l2,l3,l4,l5,l6,l7⟩:=Dv hok hvx hxs hx0;have hxlen:0<xs.length:=by cases xs <;> simp_all
 have hxsz:∀v∈vvx,v.cells.size=ti.size:=fun v hv=>(l6 v hv).1;have hnl:(vvx.flatMap fun v=>v.cells.toList).length=xs.length * ti.size:=by rw [lK vvx hxsz,l1]
 have hnews:∀(j:Nat) (u:Value),(vvx.flatMap fun v=>v.cells.toList)[j]?=some u->w.cell? ((⟨bx,offx,none⟩:Addr).add j)=some u:=fun j u hj=>(l7 j u hj).1;have hone:∀u∈(vvx.flatMap fun v=>v.cells.toList),u.oneCell'=true:=by
  intro u hu;rw [mF] at hu;obtain⟨v,hv,hu⟩:=hu;exact(l6 v hv).2 u hu
 -- the source keeps its elements,without the room behind them
 obtain⟨p1,_,_⟩:=hok.park ts _ hs (by intro cs h;cases h) (kZ (.slot ts) [] (.slot d) []) (fun t ht=>rA ht);have hdr:Ok w.drew { g with X:=gT (kZ (.slot ts) [] (.slot d) []) g.X } (st.set ts (.d (.sl false es))) (cJ tmps):=p1.drew;have hfr:Fr w g w.drew { g with X:=gT (kZ (.slot ts) [] (.slot d) []) g.X } :=(Fr.ren w g _).trans (Fr.drew w _);have hbig:es.length+xs.length<=9223372036854775807:=by unfold maxLen at hm;omega
 -- a new array
 have grown:∀(vse:List Value) (old:Nat),vse.length=es.length->(∀(i:Nat) (e:D) (x:Value),es[i]?=some e->vse[i]?=some x->R g.M g.bs e x)->(∀v∈vse,v.cells.size=ti.size/\∀c∈v.cells.toList,c.oneCell'=true)->
   ∃ g', g'.bl = g.bl /\ Fr w g (w.drew.alloc (.cells ((vse.flatMap fun v => v.cells.toList).toArray ++ (vvx.flatMap fun v => v.cells.toList).toArray ++ Builtin.zeroCells zv.cells (grownCap w (es.length + xs.length) old e - (es.length + xs.length))) e)) g' /\
    Ok (w.drew.alloc (.cells ((vse.flatMap fun v=>v.cells.toList).toArray++(vvx.flatMap fun v=>v.cells.toList).toArray++Builtin.zeroCells zv.cells (grownCap w (es.length+xs.length) old e - (es.length+xs.length))) e)) g' ((st.set ts (.d (.sl false es))).set d (.d (.sl true (es++xs))))
     (fun u=>if u=d then .slice (some ⟨w.heap.size,0,none⟩) (es.length+xs.length) (grownCap w (es.length+xs.length) old e)else cJ tmps u):=by
  intro vse old a1 a2 a3;have hesz:∀v∈vse,v.cells.size=ti.size:=fun v hv=>(a3 v hv).1;have hge:=grownCap_ge w (es.length+xs.length) old e;have hcm:grownCap w (es.length+xs.length) old e<=maxLen:=grownCap_le_maxLen w (es.length+xs.length) old e hm;have hfl:((vse++vvx).flatMap fun v=>v.cells.toList)=(vse.flatMap fun v=>v.cells.toList)++(vvx.flatMap fun v=>v.cells.toList):=gR;obtain⟨g',b1,b2,b3⟩:=hdr.freshCap d e (es++xs) (vse++vvx) ti.size (grownCap w (es.length+xs.length) old e) h8 (by simp [a1,l1]) (by simpa using hge) hcm (by simp [hx0])
   (fun i e x c1 c2=>by
    by_cases hi:i<es.length
    .rw [bC hi] at c1;rw [bC (by omega)] at c2;exact a2 i e x c1 c2
    rw [bX (by omega)] at c1;rw [bX (by omega),a1] at c2;exact l5 _ e x c1 c2)
   (fun i e c1=>by
    have:=bE c1;rcases bT.1 this with h | h
    .exact hes _ h
    exact hxs _ h)
   (fun v hv=>by
    rcases bT.1 hv with h | h
    .exact a3 v h
    exact l6 v h)
   ((vse.flatMap fun v=>v.cells.toList).toArray++(vvx.flatMap fun v=>v.cells.toList).toArray++Builtin.zeroCells zv.cells (grownCap w (es.length+xs.length) old e - (es.length+xs.length)))
   (by
    rw [hfl];have hlen:(es++xs).length * ti.size=((vse.flatMap fun v=>v.cells.toList)++(vvx.flatMap fun v=>v.cells.toList)).length:=by
     simp only [aZ,lK vse hesz,hnl,a1,dB]
    rw [hlen,kM,kM];exact zO)
   (by
    simp only [vN,dX,size_zeroCells,lK vse hesz,hnl,h7,a1,<- dB];congr 1;omega)
  refine⟨g',b1,hfr.trans b2,?_⟩;simp only [aZ] at b3;exact b3
 have bdef:∀old,old<es.length+xs.length->Builtin.nextslicecap (es.length+xs.length) old * ti.bytes<=281474976710656:=fun old ho=>growslice_fits ho hb;by_cases he0:es= []
 .subst he0;obtain⟨g',b1,b2,b3⟩:=grown [] 0 rfl (fun i e x h=>by simp at h) (fun v hv=>by simp at hv);simp only [cY,eL,aO,Fe] at *;rcases hO with ⟨a,n,rfl⟩ | ⟨b,n,cap,k',cur,E,_,hc,_⟩
  .cases hR with
   | nil=>
    refine⟨_,_,g',run_append_nil (P:=P) w t ty e ti zv h1 h2 h3 ⟨bx,offx,none⟩ xs.length capx _ hnl hnews hxlen (by omega) (by omega),b1,?_,?_⟩
    .simpa using b2
    simpa using b3
   | emp o a' cap hm'=>
    have hr:=run_append_grow (P:=P) w t ty e ti zv h1 h2 h3 a' 0 0 [] (by simp) (fun j v h=>by simp at h) ⟨bx,offx,none⟩ xs.length capx _ hnl hnews (by omega) (by omega) (by simpa using bdef 0 (by omega));simp only [eL] at hr;exact⟨_,_,g',hr,b1,b2,b3⟩
   | sl o' es' b off n' cap k vs hl hn hk hc=>
    have hr:=run_append_grow (P:=P) w t ty e ti zv h1 h2 h3 ⟨b,off,none⟩ 0 0 [] (by simp) (fun j v h=>by simp at h) ⟨bx,offx,none⟩ xs.length capx _ hnl hnews (by omega) (by omega) (by simpa using bdef 0 (by omega));simp only [eL] at hr;have hn0:n=0:=by simpa using hn
    subst hn0;exact⟨_,_,g',hr,b1,b2,b3⟩
  exact absurd rfl hc
 obtain⟨bs_,offs,caps,vse,e0,m1,m2,m3,m4,m5,m6,m7⟩:=Dv hok hR hes he0;rcases hO with ⟨a,n,e1⟩ | ⟨b,n,cap,k',cur,E,e1,hc,o3,o4,o5,o6,o7,o8,o9,o10,o11⟩
 .rw [e0] at e1;simp only [Value.slice.injEq] at e1;obtain⟨_,_,e1⟩:=e1;have:0<es.length:=by cases es <;> simp_all
  omega
 rw [e0] at e1;simp only [Value.slice.injEq,bF,Addr.mk.injEq,oR] at e1;obtain⟨⟨rfl,rfl⟩,rfl,rfl⟩:=e1;have hkk:k'=ti.size:=by
  have h0:0<es.length:=by cases es <;> simp_all
  rw [<- o11 0 _ (aS h0)];exact hes _ (bS h0)
 subst hkk;have hesz:∀v∈vse,v.cells.size=ti.size:=fun v hv=>(m6 v hv).1;have hel:(vse.flatMap fun v=>v.cells.toList).length=es.length * ti.size:=by rw [lK vse hesz,m1]
 subst e0;by_cases hroom:es.length+xs.length<=caps
 .-- there is room
  have hfit:es.length * ti.size+(vvx.flatMap fun v=>v.cells.toList).length<=cur.size:=by
   rw [hnl,o6,<- dB];exact fO _ hroom
  have hr:=vG (P:=P) w t ty e E ti h1 h2 bs_ es.length caps cur o4 ⟨bx,offx,none⟩ xs.length capx _ hnl hnews hone hroom hfit;obtain⟨q1,q2⟩:=(p1.forget d).extend d bs_ (es.length * ti.size) cur (cur.toList.take (es.length * ti.size)++(vvx.flatMap fun v=>v.cells.toList)++cur.toList.drop (es.length * ti.size+(vvx.flatMap fun v=>v.cells.toList).length)).toArray E
   (fun o=>if es.length * ti.size<=o then(vvx.flatMap fun v=>v.cells.toList)[o - es.length * ti.size]? else none)
   (by simp [gT,o3,kZ]) (by simp [St.set]) o4 o10
   (fun o ho=>by
    rw [fZ,fH (by rw [cG];exact hfit),aK ho,dM])
   (fun o c ho=>by
    split at ho
    .rename_i hge;refine⟨hge,?_⟩;have hlt:=(aP.1 ho).1;rw [fZ,fH (by rw [cG];exact hfit),aD (by omega),aK (by omega)];exact ho
    cases ho)
  refine⟨_,_,_,hr,?_,(Fr.ren w g (kZ (.slot ts) [] (.slot d) [])).trans q2,?_⟩
  .rfl
  have:=q1.set d (.d (.sl true (es++xs))) (.slice (some ⟨bs_,0,none⟩) (es.length+xs.length) caps) ⟨?_,?_⟩
  .rw [St.set_set] at this;exact this
  .refine .sl true (es++xs) bs_ 0 _ caps ti.size (vse++vvx) (by simp [m1,l1]) (by simp) h8 hroom o9 (fun i e x c1 c2=>?_) (fun i e c1=>?_) (fun i x c1=>?_)
   .by_cases hi:i<es.length
    .rw [bC hi] at c1;rw [bC (by omega)] at c2;exact(m5 i e x c1 c2).mono q2.mono (fun _ _ h=>h)
    rw [bX (by omega)] at c1;rw [bX (by omega),m1] at c2;exact(l5 _ e x c1 c2).mono q2.mono (fun _ _ h=>h)
   .rcases bT.1 (bE c1)with h | h
    .exact hes _ h
    exact hxs _ h
   by_cases hi:i<es.length
   .rw [bC (by omega)] at c1;have hmem:=bE c1;refine⟨hesz x hmem,fun j c hj=>⟨(m6 x hmem).2 c (bE (by simpa using hj)),?_⟩⟩;have hjk:j<ti.size:=by rw [<- hesz x hmem];exact(dL.1 hj).1
    have hlt:i * ti.size+j<es.length * ti.size:=by
     have:(i+1) * ti.size<=es.length * ti.size:=fO _ hi;rw [dB] at this;omega
    simp only [aU,eL,hlt];have:=(m7 _ c (zL h8 vse hesz c1 hj)).2
    rwa [eL] at this
   rw [bX (by omega),m1] at c1;have hmem:=bE c1;refine⟨hxsz x hmem,fun j c hj=>⟨(l6 x hmem).2 c (bE (by simpa using hj)),?_⟩⟩;have h9:=zL h8 vvx hxsz c1 hj;have hge:es.length * ti.size<=i * ti.size+j:=by
    have:es.length * ti.size<=i * ti.size:=fO _ (by omega);omega
   simp only [aU,eL,show ¬(i * ti.size+j<es.length * ti.size) by omega,bK,hge];rw [show i * ti.size+j - es.length * ti.size=(i - es.length) * ti.size+j by
    rw [Nat.sub_mul];have:es.length * ti.size<=i * ti.size:=fO _ (by omega);omega]
   exact h9
  refine .sl _ _ _ (.inr ⟨bs_,_,caps,ti.size,_,E,rfl,by simp [hx0],by simp [gT,o3,kZ],setRow_heap w bs_ cur _ E (0,0) o4,h8,?_,by simp,hroom,o9,fun o ho=>?_,fun i e c1=>?_⟩)
  .rw [dX,iS (by rw [cG];exact hfit),cG,o6]
  .rw [dB] at ho;simp only [aU,show ¬(o<es.length * ti.size) by omega,bK,show es.length * ti.size<=o by omega];exact iR (by rw [hnl];omega)
  rcases bT.1 (bE c1)with h | h
  .exact hes _ h
  exact hxs _ h
 -- a new array
 have holds:∀(j:Nat) (u:Value),(vse.flatMap fun v=>v.cells.toList)[j]?=some u->w.cell? ((⟨bs_,0,none⟩:Addr).add j)=some u:=fun j u hj=>(m7 j u hj).1;have hr:=run_append_grow (P:=P) w t ty e ti zv h1 h2 h3 ⟨bs_,0,none⟩ es.length caps _ hel holds ⟨bx,offx,none⟩ xs.length capx _ hnl hnews (by omega) (by omega) (bdef caps (by omega));obtain⟨g',b1,b2,b3⟩:=grown vse caps m1 m5 m6;exact⟨_,_,g',hr,b1,b2,b3⟩
end
end Go.Vm
