import Derived.Test.YtbdjepeabjangaaGreatVm8
set_option linter.all false
namespace Go.Vm
open Go
variable {o:Oper}{off:Nat}{tmps:Array Value}{w:World}
section
variable {P:Program}
def St.park(st:St):Operand->St
 | .tmp s=>match st.env s with
  | .d y=>st.set s (.d y.s2)
  | .lref _ _=>st
 | _=>st
theorem He(st:St)(x:Operand):(st.park x).n=st.n:=by
 cases x <;> simp only [St.park];split <;> rfl
theorem rR(st:St)(x:Operand):(st.park x).loc=st.loc:=by
 cases x <;> simp only [St.park];split <;> rfl
theorem rQ(st:St)(x:Operand):(st.park x).obj=st.obj:=by
 cases x <;> simp only [St.park];split <;> rfl
def uI(a:Bool)(s:Nat)(h:Holder)(off:Nat):jK->jK:=fun t=>
 if t.1= .slot s then(if a then(match t.2 with | i::q=>(h,(off+i)::q) | []=>t)else(h,off::t.2))else t
theorem Ok.parkOp {g:Gh} {st:St} (h:Ok w g st (bQ tmps))(x:Operand)(hs:(st.rd x).solid=true)(hd:Holder)(off:Nat):
  ∃X',Ok w { g with X:=X' } (st.park x) (bQ tmps)/\Fr w g w { g with X:=X' } /\(∀b q (n:Nat),(g.X b=some (.loc n,q)->X' b=some (.loc n,q))/\(g.X b=some (.obj n,q)->X' b=some (.obj n,q)))/\
   R g.M g.bs (st.rd x) (ev tmps x)/\∀(i:Nat) (e:D) (y:Value),(st.rd x).cells[i]?=some e->(ev tmps x).cells[i]?=some y->R g.M g.bs e y/\Own w g.M g.bs X' hd [off+i] e y/\y.oneCell'=true:=by
 have hr:=h.rd x;obtain⟨hs1,hs2⟩:=iE hs;have each:=hr.each hs1 hs2;have triv:(∀(i:Nat) (e:D) (y:Value),(st.rd x).cells[i]?=some e->(ev tmps x).cells[i]?=some y->∀hd p,Own w g.M g.bs g.X hd p e y)->st.park x=st->
   ∃X',Ok w { g with X:=X' } (st.park x) (bQ tmps)/\Fr w g w { g with X:=X' } /\(∀b q (n:Nat),(g.X b=some (.loc n,q)->X' b=some (.loc n,q))/\(g.X b=some (.obj n,q)->X' b=some (.obj n,q)))/\
    R g.M g.bs (st.rd x) (ev tmps x)/\∀(i:Nat) (e:D) (y:Value),(st.rd x).cells[i]?=some e->(ev tmps x).cells[i]?=some y->R g.M g.bs e y/\Own w g.M g.bs X' hd [off+i] e y/\y.oneCell'=true:=by
  intro ho hp;rw [hp];exact⟨g.X,h,Fr.refl w g,fun b q n=>⟨fun h=>h,fun h=>h⟩,hr,fun i e y h1 h2=>⟨(each i e y h1 h2).1,ho i e y h1 h2 hd _,(each i e y h1 h2).2⟩⟩
 cases x with
 | tmp s =>
  cases he:st.env s with
  | lref n o=>simp [St.rd,St.rdS,he,D.solid] at hs
  | d y =>
   have hrd:st.rd (.tmp s)=y:=by simp [St.rd,St.rdS,he]
   have hp:st.park (.tmp s)=st.set s (.d y.s2):=by simp [St.park,he]
   rw [hrd] at hs1 hs2 each hr |-;rw [hp];have hag:∀cs,y= .agg cs->True:=fun _ _=>trivial;by_cases hagg:∃cs,y= .agg cs
   .obtain⟨cs,rfl⟩:=hagg;obtain⟨k1,k2,k3⟩:=h.park s _ he hs2 (uI true s hd off) (fun t ht=>by simp [uI,ht]);refine⟨_,k1,Fr.ren w g _,fun b q n=>⟨fun hx=>by simp [fG,hx,uI],fun hx=>by simp [fG,hx,uI]⟩,hr,fun i e v h1 h2=>⟨(each i e v h1 h2).1,?_,(each i e v h1 h2).2⟩⟩;generalize hv:bQ tmps s=u at k3;have hv':ev tmps (.tmp s)=u:=hv;rw [hv'] at h2 hr;cases hr with
    | agg _ vs hl hrr h1' =>
     cases k3 with
     | agg p _ _ hh=>
      have hi:Own w g.M g.bs g.X (.slot s) ([]++ [i]) e v:=hh i e v h1 (by simpa [Value.cells] using h2);refine hi.move (fun _ _ _ h=>h) (fun _ _ h=>h) [off+i] fun b q hb=>⟨rfl,fun _ h=>h,?_⟩;simp only [aK] at hb;simp [fG,hb,uI]
     | flat p d v hf=>simp [D.flat] at hf
   have hna:∀cs,y≠ .agg cs:=fun cs e=>hagg ⟨cs,e⟩;obtain⟨k1,k2,k3⟩:=h.park s _ he hs2 (uI false s hd off) (fun t ht=>by simp [uI,ht]);refine⟨_,k1,Fr.ren w g _,fun b q n=>⟨fun hx=>by simp [fG,hx,uI],fun hx=>by simp [fG,hx,uI]⟩,hr,fun i e v h1 h2=>⟨(each i e v h1 h2).1,?_,(each i e v h1 h2).2⟩⟩;have hone:=hr.one_of hs1 hna hs2;rw [Value.cells_one hone] at h2;have hyc:y.cells= [y]:=by cases y <;> first | rfl | exact absurd rfl (hna _)
   rw [hyc] at h1
   match i with
   | 0=>
    simp at h1 h2;subst h1;subst h2;refine k3.move (fun _ _ _ h=>h) (fun _ _ h=>h) [off+0] fun b q hb=>⟨rfl,fun _ h=>h,?_⟩;simp only [aK] at hb;simp [fG,hb,uI]
   | i+1=>simp at h1
 | const v =>
  refine triv (fun i e y h1 h2 hd p=>?_) rfl;have hv:st.rd (.const v)=D.ofV v:=rfl;rw [hv] at h1 hs2 hs1;have h2':v.cells[i]?=some y:=h2;unfold D.ofV at h1 hs2;split at h1
  .rename_i cs;split at h1
   .simp only [D.cells,bP,cQ] at h1;have h2'':cs[i]?=some y:=h2';rw [h2''] at h1;simp at h1;subst h1;unfold D.ofV1;split
    .exact .sl _ _ _ (.inl ⟨_,_,rfl⟩)
    all_goals exact .flat _ _ _ rfl
   rename_i hc;simp only [hc] at hs2;simp [St.rd,St.rdS,D.ofV,hc,D.solid] at hs
  .rename_i vs;split at h1
   .rename_i hc;exfalso;simp [St.rd,St.rdS,D.ofV,hc,D.solid] at hs
   rename_i hc;exfalso;simp [St.rd,St.rdS,D.ofV,hc,D.solid] at hs
  rename_i hn1 hn2;have hone:v.oneCell'=true:=by cases v <;> simp_all [Value.oneCell']
  have hc1:(D.ofV1 v).cells= [D.ofV1 v]:=by unfold D.ofV1;split <;> rfl
  rw [hc1] at h1;rw [Value.cells_one hone] at h2'
  match i with
  | 0=>
   simp at h1 h2';subst h1;subst h2';unfold D.ofV1;split
   .exact .sl _ _ _ (.inl ⟨_,_,rfl⟩)
   all_goals exact .flat _ _ _ rfl
  | i+1=>simp at h1
 | func f=>
  refine triv (fun i e y h1 h2 hd p=>?_) rfl;have hv:st.rd (.func f)= .clo (.func f) [] []:=rfl;rw [hv] at h1
  match i with
  | 0=>simp [D.cells] at h1;subst h1;exact .flat _ _ _ rfl
  | i+1=>simp [D.cells] at h1
 | global n=>simp [St.rd,St.rdS,Slot.any,D.solid] at hs
def cK(P:Program)(t:TypeId):Option (List D):=
 match P.info? t with
 | some i=>match i.zero with
  | some z=>if z.cells.all Value.oneCell' then some (z.cells.toList.map D.ofV1)else none
  | none=>none
 | none=>none
theorem Bd {M:Mem} {bs:List Nat} {X:Nat->Option jK} {h:Holder} {p:List Nat} (v:Value):Own w M bs X h p (D.ofV1 v) v:=by
 unfold D.ofV1;split
 .exact .sl _ _ _ (.inl ⟨_,_,rfl⟩)
 all_goals exact .flat _ _ _ rfl
def pA(P:Program)(c:Cfg)(dst:Option Tmp)(e:TypeId)(st:St)(K:St->Prop):Prop:=
 match cK P e,dst with
 | some cs,some d=>if c.esc.contains d then K (({ st with obj:=st.obj++ [cs] } :St).set d (.d (.ref st.obj.length 0)))else K (({ st with loc:=st.loc++ [cs] } :St).set d (.lref st.loc.length 0))
 | _,_=>False
theorem Mo {st:St} {K:St->Prop} (c:Cfg)(e:TypeId)(hd:dD o st)(ho:o.op= .alloc e)(h:pA P c o.dst e st K):Does P o st K:=by
 unfold pA at h;split at h
 .rename_i cs d hz hdst;unfold cK at hz;split at hz
  .rename_i i hi;split at hz
   .rename_i z hzz;split at hz
    .rename_i hall;simp only [aP] at hz;rw [yJ] at hall;have hrun:∀(tmps:Array Value) (w:World),(execOp (ev tmps) o).run P w= .ok (.value (.pointer (some ⟨w.heap.size,0,none⟩))) (w.alloc (.cells z.cells e)):=by
      intro tmps w;simp [execOp,ho,Instr.alloc,zeroValue,typeInfo,hi,hzz,newVar,newRow,newObj];rfl
     have hlen:z.cells.size=cs.length:=by rw [<- hz];simp
     have hcells:∀(w:World) (g:Gh) (hd:Holder) (i:Nat) (d:D) (x:Value),cs[i]?=some d->z.cells[i]?=some x->R g.M g.bs d x/\Own w g.M g.bs g.X hd [i] d x/\x.oneCell'=true:=by
      intro w g hd i d x h1 h2;rw [<- hz,bP,cQ,h2] at h1;simp at h1;subst h1;obtain⟨hl,rfl⟩:=cZ.1 h2;exact⟨R.ofV1 _ _ _,Bd _,hall i hl⟩
     split at h
     .refine bE hd fun w g tmps hok=>?_;obtain⟨k1,k2⟩:=hok.newObj cs z.cells e hlen (hcells w g _);refine⟨_,_,_,_,.inl (hrun tmps w),h,k2,?_,rfl,by simp⟩;rw [hdst];refine k1.set d _ _ ⟨.ref _ 0 _ ?_,.flat _ _ _ rfl⟩;rw [<- hok.ol];simp
     refine bE hd fun w g tmps hok=>?_;obtain⟨k1,k2⟩:=hok.box cs z.cells e hlen (hcells w g _);refine⟨_,_,_,_,.inl (hrun tmps w),h,k2,?_,rfl,by simp⟩;rw [hdst];refine k1.set d _ _ ⟨_,?_,rfl⟩;rw [<- hok.ll];simp
    cases hz
   cases hz
  cases hz
 exact h.elim
def zJ(c:Cfg)(dst:Option Tmp)(x:Operand)(st:St)(K:St->Prop):Prop:=
 match dst with
 | some d=>(st.rd x).solid=true/\
  if c.imm.contains d then K (st.set d (.d (.adr (st.rd x).s2.cells)))
  else if c.esc.contains d then K (({ st.park x with obj:=st.obj++ [(st.rd x).cells] } :St).set d (.d (.ref st.obj.length 0)))
  else K (({ st.park x with loc:=st.loc++ [(st.rd x).cells] } :St).set d (.lref st.loc.length 0))
 | none=>False
theorem Cy {d:D} (h:d.solid=true):d.s2.solid=true:=by
 cases d <;> simp_all [D.solid,D.s2,D.s1]
theorem aA4 {st:St} {K:St->Prop} (c:Cfg)(e:TypeId)(x:Operand)(hd:dD o st)(ho:o.op= .box e x)(h:zJ c o.dst x st K):Does P o st K:=by
 have hrun:∀(tmps:Array Value) (w:World),(execOp (ev tmps) o).run P w= .ok (.value (.pointer (some ⟨w.heap.size,0,none⟩))) (w.alloc (.cells (ev tmps x).cells e)):=by
  intro tmps w;simp [execOp,ho,Instr.box,newVar,newRow,newObj];rfl
 unfold zJ at h;split at h
 .rename_i d hdst;obtain⟨hs,h⟩:=h;obtain⟨hs1,hs2⟩:=iE hs;split at h
  .refine bE hd fun w g tmps hok=>?_;obtain⟨k1,k2⟩:=hok.known (ev tmps x).cells (ev tmps x).cells e none (fun _ _ h=>h);refine⟨_,_,_,_,.inl (hrun tmps w),h,k2,?_,rfl,by simp⟩;rw [hdst];refine k1.set d _ _ ⟨?_,.flat _ _ _ rfl⟩;have hr:=(hok.rd x).s2.mono (M':=g.M.add w.heap.size (ev tmps x).cells) k2.mono (fun _ _ h=>h);obtain⟨s1,s2⟩:=iE (Cy hs);refine .adr _ _ _ (ev tmps x).cells.toList ?_ (fun i d y h1 h2=>(hr.each s1 s2 i d y h1 (by simpa using h2)).1) (fun i y h1=>?_)
   .rw [bF,hr.cells_len s1 s2];cases (st.rd x).s2 <;> rfl
   have h1':(ev tmps x).cells[i]?=some y:=by simpa using h1
   have hl:i<(st.rd x).s2.cells.length:=by
    have:=(cZ.1 h1').1;rw [hr.cells_len s1 s2] at this;have e:(st.rd x).s2.cells.length=(st.rd x).s2.ncells:=by cases (st.rd x).s2 <;> rfl
    omega
   exact⟨(hr.each s1 s2 i _ y (aN hl) h1').2,by simp [Mem.add,h1']⟩
  have hlen:∀(tmps:Array Value) (w:World) (g:Gh),Ok w g st (bQ tmps)->(ev tmps x).cells.size=(st.rd x).cells.length:=by
   intro tmps w g hok;rw [(hok.rd x).cells_len hs1 hs2];cases (st.rd x) <;> rfl
  split at h
  .refine bE hd fun w g tmps hok=>?_;obtain⟨X',k1,k2,k3,k4,k5⟩:=hok.parkOp x hs (.obj st.obj.length) 0;obtain⟨k6,k7⟩:=k1.newObj (st.rd x).cells (ev tmps x).cells e (hlen tmps w g hok) (fun i d y h1 h2=>by
    obtain⟨a1,a2,a3⟩:=k5 i d y h1 h2;rw [dT] at a2;rw [rQ];exact⟨a1,a2,a3⟩)
   rw [rQ] at k6 k7;refine⟨_,_,_,_,.inl (hrun tmps w),h,k2.trans k7,?_,He st x,by simp⟩;rw [hdst];refine k6.set d _ _ ⟨.ref _ 0 _ ?_,.flat _ _ _ rfl⟩;rw [<- hok.ol];simp
  refine bE hd fun w g tmps hok=>?_;obtain⟨X',k1,k2,k3,k4,k5⟩:=hok.parkOp x hs (.loc st.loc.length) 0;obtain⟨k6,k7⟩:=k1.box (st.rd x).cells (ev tmps x).cells e (hlen tmps w g hok) (fun i d y h1 h2=>by
   obtain⟨a1,a2,a3⟩:=k5 i d y h1 h2;rw [dT] at a2;rw [rR];exact⟨a1,a2,a3⟩)
  rw [rR] at k6 k7;refine⟨_,_,_,_,.inl (hrun tmps w),h,k2.trans k7,?_,He st x,by simp⟩;rw [hdst];refine k6.set d _ _ ⟨_,?_,rfl⟩;rw [<- hok.ll];simp
 exact h.elim
def dE(cs:List D)(off:Nat)(ds:List D):List D:=cs.take off++ds++cs.drop (off+ds.length)
def sQ(P:Program)(dst:Option Tmp)(t:TypeId)(a v:Operand)(st:St)(K:St->Prop):Prop:=
 dst=none/\(st.rd v).solid=true/\((∃ag,fE P t=some (ag,(st.rd v).ncells))/\0<(st.rd v).ncells)/\
 match st.rdS a with
 | .lref m off=>match st.loc[m]? with
  | some cs=>off+(st.rd v).ncells<=cs.length/\K { st.park v with loc:=st.loc.set m (dE cs off (st.rd v).cells) }
  | none=>False
 | .d (.ref m off)=>match st.obj[m]? with
  | some cs=>off+(st.rd v).ncells<=cs.length/\K { st.park v with obj:=st.obj.set m (dE cs off (st.rd v).cells) }
  | none=>False
 | _=>False
theorem iZ(d:D):d.ncells=d.cells.length:=by cases d <;> rfl
theorem eA {α:Type} {cs ds:List α} {i:Nat} (h:off+ds.length<=cs.length):(cs.take off++ds++cs.drop (off+ds.length))[i]?=if i<off then cs[i]? else if i<off+ds.length then ds[i - off]? else cs[i]?:=by
 rw [bN];by_cases h1:i<off
 .rw [aR h1,aU (by rw [bB];omega),dX,aR h1]
 rw [aG h1,bI (by rw [bB];omega),bB,iA (by omega)];by_cases h2:i<off+ds.length
 .rw [aR h2,aU (by omega)]
 rw [aG h2,bI (by omega),jG];congr 1;omega
theorem gA {α:Type} {cs ds:List α} (h:off+ds.length<=cs.length):(cs.take off++ds++cs.drop (off+ds.length)).length=cs.length:=by
 simp only [aX,bB,dI];omega
theorem rC {b:Nat} {cur:Array Value} {E t:TypeId} {ag:Bool} {n:Nat} {v:Value} (hh:w.heap[b]?=some (.cells cur E (0,0)))(ht:fE P t=some (ag,n))(hn:v.cells.size=n)(hl:off+n<=cur.size)
  (h1:∀x∈v.cells.toList,x.oneCell'=true):(storeVar t ⟨b,off,none⟩ v).run P w= .ok () (w.setRow b (cur.toList.take off++v.cells.toList++cur.toList.drop (off+v.cells.toList.length)).toArray):=by
 obtain⟨td,ti,i1,i2,i3,i4⟩:=lD ht;have:=run_storeCells_at P b off E v.cells.toList 0 cur w hh (by rw [bF,hn];omega) h1;simp only [storeVar,Sem.run_bind,bH i2,i4,Result.andThen_ok,hn,ne_eq,not_true_eq_false,aZ];simpa using this
theorem zP {w':World} {t:TypeId} {a v:Operand} {ad:Addr} (ho:o.op= .store t a v)(hv:ev tmps a= .pointer (some ad))(h:(storeVar t ad (ev tmps v)).run P w= .ok () w'):
  (execOp (ev tmps) o).run P w= .ok .skip w':=by
 simp [execOp,ho,Instr.storeAt,hv,Instr.sureAddr,h]
theorem No {st:St} {K:St->Prop} (t:TypeId)(a v:Operand)(hd:dD o st)(ho:o.op= .store t a v)(h:sQ P o.dst t a v st K):Does P o st K:=by
 obtain⟨hdst,hs,⟨⟨ag,ht⟩,hpos⟩,h⟩:=h;obtain⟨hs1,hs2⟩:=iE hs;have hlen:∀(tmps:Array Value) (w:World) (g:Gh),Ok w g st (bQ tmps)->(ev tmps v).cells.size=(st.rd v).ncells:=fun tmps w g hok=>(hok.rd v).cells_len hs1 hs2
 -- the cells behind the store
 have cells:∀(w:World) (g:Gh) (X':Nat->Option jK) (tmps:Array Value) (hd:Holder) (off:Nat) (cs:List D) (cur:Array Value),(ev tmps v).cells.size=(st.rd v).ncells->cur.size=cs.length->off+(st.rd v).ncells<=cs.length->
   (∀(i:Nat) (d:D) (x:Value),cs[i]?=some d->cur[i]?=some x->R g.M g.bs d x/\Own w g.M g.bs X' hd [i] d x/\x.oneCell'=true)->
   (∀(i:Nat) (e:D) (y:Value),(st.rd v).cells[i]?=some e->(ev tmps v).cells[i]?=some y->R g.M g.bs e y/\Own w g.M g.bs X' hd [off+i] e y/\y.oneCell'=true)->
   ((cur.toList.take off++(ev tmps v).cells.toList++cur.toList.drop (off+(ev tmps v).cells.toList.length)).toArray).size=(dE cs off (st.rd v).cells).length/\
   ∀(i:Nat) (d:D) (x:Value),(dE cs off (st.rd v).cells)[i]?=some d->(cur.toList.take off++(ev tmps v).cells.toList++cur.toList.drop (off+(ev tmps v).cells.toList.length)).toArray[i]?=some x->R g.M g.bs d x/\Own w g.M g.bs X' hd [i] d x/\x.oneCell'=true:=by
  intro w g X' tmps hd off cs cur h1 h2 h3 h4 h5;have e1:off+(st.rd v).cells.length<=cs.length:=by rw [<- iZ];exact h3
  have e2:off+(ev tmps v).cells.toList.length<=cur.toList.length:=by rw [bF,bF,h1,h2];exact h3
  refine⟨?_,fun i d x a1 a2=>?_⟩
  .rw [eK,gA e2];unfold dE;rw [gA e1,bF,h2]
  unfold dE at a1;rw [eA e1] at a1;rw [eO,eA e2] at a2;rw [bF,h1] at a2;rw [<- iZ] at a1;by_cases c1:i<off
  .simp only [c1,aJ] at a1 a2;exact h4 i d x a1 (by simpa using a2)
  simp only [c1,aZ] at a1 a2;by_cases c2:i<off+(st.rd v).ncells
  .simp only [c2,aJ] at a1 a2;have:=h5 (i - off) d x a1 (by simpa using a2)
   rwa [show off+(i - off)=i by omega] at this
  simp only [c2,aZ] at a1 a2;exact h4 i d x a1 (by simpa using a2)
 split at h
 .rename_i m off ha;split at h
  .rename_i cs hcs;obtain⟨hle,hK⟩:=h;refine bE hd fun w g tmps hok=>?_;obtain⟨b,hb,hv⟩:=hok.rdL ha;obtain⟨X',k1,k2,k3,k4,k5⟩:=hok.parkOp v hs (.loc m) off;obtain⟨cur,E,h1,h2,h3,h4,h5⟩:=(k1.loc m b cs hb (by rw [rR];exact hcs)).resolve_left (by intro e;rw [e] at hle;simp at hle;omega);obtain⟨c1,c2⟩:=cells w g X' tmps (.loc m) off cs cur (hlen tmps w g hok) h2 hle h5 k5;obtain⟨k6,k7⟩:=k1.writeLoc m b _ _ hb (by rw [rR,hcs];intro e;simp at e;rw [e] at hle;simp at hle;omega) c1 c2;refine⟨undef,_,_,_,.inr ⟨?_,rfl⟩,hK,k2.trans k7,?_,He st v,by simp⟩
   .have hone:∀y∈(ev tmps v).cells.toList,y.oneCell'=true:=by
     intro y hy;obtain⟨i,hi⟩:=dY hy;have hi':(ev tmps v).cells[i]?=some y:=by simpa using hi
     have hl:i<(st.rd v).cells.length:=by
      have:=(cZ.1 hi').1;rw [hlen tmps w g hok,iZ] at this;exact this
     exact(k5 i _ y (aN hl) hi').2.2
    have hfit:off+(st.rd v).ncells<=cur.size:=by rw [h2];exact hle
    exact zP ho hv (rC (P:=P) h1 ht (hlen tmps w g hok) hfit hone)
   rw [hdst];rw [rR] at k6;exact k6
  exact h.elim
 .rename_i m off ha;split at h
  .rename_i cs hcs;obtain⟨hle,hK⟩:=h;refine bE hd fun w g tmps hok=>?_;have hra:=hok.rd a;simp only [St.rd,ha] at hra;generalize hv:ev tmps a=va at hra;cases hra with
   | ref _ _ b hb =>
    obtain⟨X',k1,k2,k3,k4,k5⟩:=hok.parkOp v hs (.obj m) off;obtain⟨cur,E,h1,h2,h3,h4,h5⟩:=(k1.obj m b cs hb (by rw [rQ];exact hcs)).resolve_left (by intro e;rw [e] at hle;simp at hle;omega);obtain⟨c1,c2⟩:=cells w g X' tmps (.obj m) off cs cur (hlen tmps w g hok) h2 hle h5 k5;obtain⟨k6,k7⟩:=k1.writeObj m b _ _ hb (by rw [rQ,hcs];intro e;simp at e;rw [e] at hle;simp at hle;omega) c1 c2;refine⟨undef,_,_,_,.inr ⟨?_,rfl⟩,hK,k2.trans k7,?_,He st v,by simp⟩
    .have hone:∀y∈(ev tmps v).cells.toList,y.oneCell'=true:=by
      intro y hy;obtain⟨i,hi⟩:=dY hy;have hi':(ev tmps v).cells[i]?=some y:=by simpa using hi
      have hl:i<(st.rd v).cells.length:=by
       have:=(cZ.1 hi').1;rw [hlen tmps w g hok,iZ] at this;exact this
      exact(k5 i _ y (aN hl) hi').2.2
     have hfit:off+(st.rd v).ncells<=cur.size:=by rw [h2];exact hle
     exact zP ho hv (rC (P:=P) h1 ht (hlen tmps w g hok) hfit hone)
    rw [hdst];rw [rQ] at k6;exact k6
  exact h.elim
 exact h.elim
end
end Go.Vm
