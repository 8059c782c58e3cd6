import Derived.Test.YtbdjepeabjangaaGreatVm12
set_option linter.all false
namespace Go.Vm
open Go
variable {K:St->Prop}{g:Gh}{o:Oper}{st:St}{t:TypeId}{ti:TypeInfo}{tmps:Array Value}{w:World}
section
variable {P:Program}
theorem Eb {e:TypeId} (h1:P.underlying t=some (.slice e))(h2:P.info? e=some ti)(a:Option Addr)(c:Nat)(ty:TypeId)(w:World):(Builtin.append_ #[t,t] ty #[.slice none 0 0,.slice a 0 c]).run P w= .ok (.slice none 0 0) w:=by
 have hfc:(Builtin.firstCells ti.size 0 (.slice a 0 c)).run P w= .ok #[] w:=by
  cases a with
  | none=>simp [Builtin.firstCells]
  | some a=>simp [Builtin.firstCells,loadCells,loadCellsFrom]
 simp [Builtin.append_,run_underlying h1,bQ h2,Builtin.lenOf,hfc]
theorem Da (hok:Ok w g st (cC tmps)) {e:TypeId} {k by_:Nat} {zv:Value} (h1:P.underlying t=some (.slice e))(h2:P.info? e=some ti)(h3:ti.zero=some zv)(h5:ti.size=k)(h6:ti.bytes=by_)(h7:zv.cells.size=k)(h8:0<k)
  (d:Nat) (o:Bool) (xs:List D) (vx:Value) (hvx:R g.M g.bs (.sl o xs) vx) (hb:xs.length * by_<=140737488355328) (hm:xs.length<=maxLen) (hxs:∀d∈xs,d.ncells=k) (ty:TypeId):
  ∃v w' g',(Builtin.append_ #[t,t] ty #[.slice none 0 0,vx]).run P w= .ok v w'/\g'.bl=g.bl/\Fr w g w' g'/\Ok w' g' (st.set d (.d (.sl true xs))) (fun u=>if u=d then v else cC tmps u):=by
 subst h5;subst h6;by_cases hx0:xs= []
 .subst hx0;obtain⟨a,c,rfl⟩:∃a c,vx= .slice a 0 c:=by
   cases hvx with
   | nil=>exact⟨_,_,rfl⟩
   | emp o a cap hm=>exact⟨_,_,rfl⟩
   | sl o' es b off n cap k vs hl hn=>subst hn;exact⟨_,_,rfl⟩
  exact⟨_,w,g,Eb h1 h2 a c ty w,rfl,Fr.refl w g,hok.set d _ _ ⟨.nil true,.sl _ _ _ (.inl ⟨_,_,rfl⟩)⟩⟩
 obtain⟨bx,offx,capx,vvx,rfl,l1,l2,l3,l4,l5,l6,l7⟩:=yZ hok hvx hxs hx0;have hxlen:0<xs.length:=by cases xs <;> simp_all
 have hxsz:∀v∈vvx,v.cells.size=ti.size:=fun v hv=>(l6 v hv).1;have hnl:(vvx.flatMap fun v=>v.cells.toList).length=xs.length * ti.size:=by rw [kR vvx hxsz,l1]
 have hnews:∀(j:Nat) (u:Value),(vvx.flatMap fun v=>v.cells.toList)[j]?=some u->w.cell? ((⟨bx,offx,none⟩:Addr).add j)=some u:=fun j u hj=>(l7 j u hj).1;have hbig:xs.length<=9223372036854775807:=by unfold maxLen at hm;omega
 have hge:=grownCap_ge w xs.length 0 e;have hcm:grownCap w xs.length 0 e<=maxLen:=grownCap_le_maxLen w xs.length 0 e hm;obtain⟨g',b1,b2,b3⟩:=hok.drew.freshCap d e xs vvx ti.size (grownCap w xs.length 0 e) h8 l1 hge hcm hx0 l5 (fun i e c1=>hxs _ (aW c1)) l6
  ((vvx.flatMap fun v=>v.cells.toList).toArray++Builtin.zeroCells zv.cells (grownCap w xs.length 0 e - xs.length))
  (by
   rw [<- hnl,iT];exact vN)
  (by
   simp only [rW,eX,size_zeroCells,hnl,h7,<- cK];congr 1;omega)
 exact⟨_,_,g',run_append_nil (P:=P) w t ty e ti zv h1 h2 h3 ⟨bx,offx,none⟩ xs.length capx _ hnl hnews hxlen (by omega) (by omega),b1,(Fr.drew w g).trans b2,b3⟩
theorem Mq (t t2:TypeId)(s x:Operand)(hd:dJ o st)(ho:o.op= .call { callee:= .builtin .append,args:=#[s,x],argTypes:=#[t,t2] })(h:qM P o.dst t t2 s x st K):Does P o st K:=by
 unfold qM at h;split at h
 .rename_i e k by_ z d es ow xs he hdst hs hx;obtain⟨ti,zv,h1,h2,h3,h4,h5,h6,h7,h8⟩:=iG he;obtain⟨⟨e2,ht2⟩,⟨hb,hm⟩,hes,hxs,h⟩:=h;have hrun:∀(tmps:Array Value) (w w':World) (v:Value),(Builtin.append_ #[t,t] o.type #[ev tmps s,ev tmps x]).run P w= .ok v w'->(execOp (ev tmps) o).run P w= .ok (.value v) w':=by
   intro tmps w w' v hr;rw [<- sG (ty:=o.type) h1 ht2] at hr;simp [execOp,ho,resolve,invoke,builtin,hr]
  split at h
  .rename_i ts;obtain⟨hne,hK⟩:=h;have hs':st.env ts= .d (.sl true es):=by
    cases he':st.env ts with
    | lref n off=>simp [St.rd,St.rdS,he'] at hs
    | d y=>simp [St.rd,St.rdS,he'] at hs;rw [hs]
   refine bL hd fun w g tmps hok=>?_;obtain⟨v,w',g',r1,r2,r3,r4⟩:=Cs hok h1 h2 h3 h5 h6 (by rw [h4];exact h7) h8 (z:=z) ts d hne ow es xs hs' (ev tmps x) (by have:=hok.rd x;rwa [hx] at this) hb hm hes hxs o.type;exact⟨v,w',g',_,.inl (hrun tmps w w' v r1),hK,r3,by rw [hdst];exact r4,rfl,by rw [r2];simp⟩
  .have hes0:es= []:=by
    simp only [St.rd,St.rdS,D.ofV,D.ofV1,D.sl.injEq] at hs;exact hs.2.symm
   subst hes0;simp only [aK,dU,eA] at h hb hm;refine bL hd fun w g tmps hok=>?_;obtain⟨v,w',g',r1,r2,r3,r4⟩:=Da hok h1 h2 h3 h5 h6 (by rw [h4];exact h7) h8 d ow xs (ev tmps x) (by have:=hok.rd x;rwa [hx] at this) hb hm hxs o.type;exact⟨v,w',g',_,.inl (hrun tmps w w' v r1),h,r3,by rw [hdst];exact r4,rfl,by rw [r2];simp⟩
  exact h.elim
 exact h.elim
def lK(a:Bool)(h:Holder)(off n d:Nat):kN->kN:=fun t=>
 if t.1=h then(match t.2 with
  | i::q=>if a then(if off<=i/\i<off+n then(.slot d,(i - off)::q)else t)else(if i=off then(.slot d,q)else t)
  | []=>t)else t
def jX (P : Program) (c : Cfg) (dst : Option Tmp) (t : TypeId) (x : Operand) (st : St) (K : St -> Prop) : Prop :=
 match fI P t,dst with
 | some (a, n), some d =>
  if c.take.contains d then
   match st.rdS x with
   | .lref m off => match st.loc[m]? with
    | some cs=>match uH a n (cs.drop off)with
     | some y=>((a=false->n=1)/\0<n)/\off+n<=cs.length/\K (({ st with loc:=st.loc.set m (dK cs off y.s2.cells) } :St).set d (.d y))
     | none=>False
    | none=>False
   | .d (.ref m off) => match st.obj[m]? with
    | some cs=>match uH a n (cs.drop off)with
     | some y=>((a=false->n=1)/\0<n)/\off+n<=cs.length/\K (({ st with obj:=st.obj.set m (dK cs off y.s2.cells) } :St).set d (.d y))
     | none=>False
    | none=>False
   | _=>iI P dst t x st K
  else iI P dst t x st K
 | _,_=>iI P dst t x st K
theorem Vn {hd:Holder} {b:Nat} {cs:List D} {a:Bool} {n off:Nat} {y:D} (hbx:BoxOk w g hd b cs)(ht:fI P t=some (a,n))(hld:uH a n (cs.drop off)=some y)(hn1:a=false->n=1)(hpos:0<n)(hfit:off+n<=cs.length)(d:Nat)(hhd:∀t,hd≠ .slot t):
  ∃v,(loadVar t ⟨b,off,none⟩).run P w= .ok v w/\R g.M g.bs y v/\Own w g.M g.bs (fW (lK a hd off n d) g.X) (.slot d) [] y v/\BoxOk w { g with X:=fW (lK a hd off n d) g.X } hd b (dK cs off y.s2.cells):=by
 obtain⟨v,hrun,hr⟩:=tP (P:=P) (Ba hbx off) ht hld;have hnt:=rA (Ba hbx off) hld;obtain⟨cur,E,h1,h2,h3,h4,h5⟩:=hbx.resolve_left (by intro e;rw [e] at hfit;simp at hfit;omega);have hb2:BoxOk w g hd b cs:= .inr ⟨cur,E,h1,h2,h3,h4,h5⟩;obtain⟨td,ti,i1,i2,i3,i4⟩:=mJ ht
 -- the value is the cells
 have hv:∀(i:Nat) (c:Value),v.cells[i]?=some c->i<n/\cur[off+i]?=some c:=by
  intro i c hi;cases a with
  | true =>
   simp only [uH,aO] at hld;split at hld
   .have e1:∀(j:Nat) (x:Value),((cur.toList.drop off).take n)[j]?=some x->w.cell? ((⟨b,off,none⟩:Addr).add j)=some x:=by
     intro j x hj;rw [Addr.add_none,cell_of_row w b (off+j) cur E (0,0) h1];rw [eJ] at hj;split at hj
     .rw [kA,dA] at hj;exact hj
     cases hj
    have hlen:((cur.toList.drop off).take n).length=n:=by
     rw [bF,dO,bP,h2];omega
    have hl:=run_loadCells_list (P:=P) w ⟨b,off,none⟩ ((cur.toList.drop off).take n) e1;rw [hlen] at hl;have:(loadVar t ⟨b,off,none⟩).run P w= .ok (.agg ((cur.toList.drop off).take n).toArray) w:=by simp [loadVar,lV i1,i3,bQ i2,i4,hl]
    rw [this] at hrun;simp only [Result.ok.injEq,pM] at hrun;subst hrun;simp only [Value.cells] at hi;rw [eZ,eJ] at hi;split at hi
    .rename_i hin;rw [kA,dA] at hi;exact⟨hin,hi⟩
    cases hi
   cases hld
  | false =>
   have hn:=hn1 rfl;subst hn;have hlt:off<cur.size:=by omega
   have:(loadVar t ⟨b,off,none⟩).run P w= .ok cur[off] w:=by
    simp only [loadVar,Sem.run_bind,lV i1,i3,Result.andThen_ok,gD,bE];exact tM (by rw [cell_of_row w b off cur E (0,0) h1];exact aZ hlt)
   rw [this] at hrun;simp only [Result.ok.injEq,pM] at hrun;subst hrun;have hone:cur[off].oneCell'=true:=by
    have hc:off<cs.length:=by omega
    exact(h5 off _ _ (aS hc) (aZ hlt)).2.2
   rw [Value.cells_one hone] at hi
   match i with
   | 0=>simp at hi;subst hi;exact⟨by omega,aZ hlt⟩
   | i+1=>simp at hi
 have hyc:∀(i:Nat) (e:D),y.cells[i]?=some e->i<n/\cs[off+i]?=some e:=by
  intro i e hi;cases a with
  | true =>
   simp only [uH,aO] at hld;split at hld
   .simp only [aV] at hld;subst hld;simp only [D.cells] at hi;rw [eJ] at hi;split at hi
    .rename_i hin;rw [kA] at hi;exact⟨hin,hi⟩
    cases hi
   cases hld
  | false =>
   have hn:=hn1 rfl;subst hn;simp only [uH,gD,bE,nB] at hld;have hna:∀ds,y≠ .agg ds:=by
    intro ds e;subst e;have hlt:off<cur.size:=by rw [h2];exact(aJ.1 hld).1
    have hc:=h5 off _ _ hld (aZ hlt);exact(hc.1.one hc.2.2).1 _ rfl
   have hc1:y.cells= [y]:=by cases y <;> first | rfl | exact absurd rfl (hna _)
   rw [hc1] at hi
   match i with
   | 0=>simp at hi;subst hi;exact⟨by omega,hld⟩
   | i+1=>simp at hi
 have hylen:y.cells.length=n:=by
  cases a with
  | true=>
   simp only [uH,aO] at hld;split at hld
   .simp only [aV] at hld;subst hld;simp only [D.cells,bF,dO];omega
   cases hld
  | false =>
   have hn:=hn1 rfl;subst hn;simp only [uH,gD,bE,nB] at hld;have hna:∀ds,y≠ .agg ds:=by
    intro ds e;subst e;have hlt:off<cur.size:=by rw [h2];exact(aJ.1 hld).1
    have hc:=h5 off _ _ hld (aZ hlt);exact(hc.1.one hc.2.2).1 _ rfl
   cases y <;> first | rfl | exact absurd rfl (hna _)
 refine⟨v,hrun,hr,?_,?_⟩
 .cases a with
  | true =>
   simp only [uH,aO] at hld;split at hld
   .simp only [aV] at hld;cases hr with
    | agg ds vs hl hrr h1'=>
     refine .agg _ ds vs fun i e c a1 a2=>?_;obtain⟨hin,hcs⟩:=hyc i e a1;obtain⟨_,hcu⟩:=hv i c (by simpa [Value.cells] using a2);refine(h5 _ e c hcs hcu).2.1.move (fun _ _ _ h=>h) (fun _ _ h=>h) _ fun b' q hb=>⟨rfl,fun _ h=>h,?_⟩;simp only [aK,aM] at hb |-;simp [fW,hb,lK,hin]
    | any=>simp at hld
    | v=>simp at hld
    | nil=>simp at hld
    | emp=>simp at hld
    | sl=>simp at hld
    | tup=>simp at hld
    | adr=>simp at hld
    | ref=>simp at hld
    | clo=>simp at hld
    | xs=>simp at hld
    | xl=>simp at hld
    | slo=>simp at hld
    | mref=>simp at hld
    | mp=>simp at hld
    | mit=>simp at hld
    | mo=>simp at hld
    | mz=>simp at hld
    | ifc=>simp at hld
   cases hld
  | false =>
   have hn:=hn1 rfl;subst hn;simp only [uH,gD,bE,nB] at hld;have hlt:off<cur.size:=by rw [h2];exact(aJ.1 hld).1
   have hc:=h5 off _ _ hld (aZ hlt);have hvv:v=cur[off]:=by
    have:=(hv 0 v (by
     have hone:v.oneCell'=true:=by
      have:(loadVar t ⟨b,off,none⟩).run P w= .ok cur[off] w:=by
       simp only [loadVar,Sem.run_bind,lV i1,i3,Result.andThen_ok,gD,bE];exact tM (by rw [cell_of_row w b off cur E (0,0) h1];exact aZ hlt)
      rw [this] at hrun;simp only [Result.ok.injEq,pM] at hrun;rw [<- hrun];exact hc.2.2
     rw [Value.cells_one hone];rfl)).2
    rw [jI,aZ hlt] at this;simpa using this.symm
   rw [hvv];refine hc.2.1.move (fun _ _ _ h=>h) (fun _ _ h=>h) _ fun b' q hb=>⟨rfl,fun _ h=>h,?_⟩;simp only [aK,aM] at hb |-;simp [fW,hb,lK]
 refine .inr ⟨cur,E,h1,?_,?_,h4,fun i e c a1 a2=>?_⟩
 .unfold dK;rw [gL (by rw [<- kG,rR,kG,hylen];exact hfit),h2]
 .simp [fW,h3,lK]
 have hs2:y.s2.cells.length=n:=by rw [<- kG,rR,kG,hylen]
 unfold dK at a1;rw [eL (by rw [hs2];exact hfit),hs2] at a1;have old:(i<off\/¬i<off+n)->cs[i]?=some e->R g.M g.bs e c/\Own w g.M g.bs (fW (lK a hd off n d) g.X) hd [i] e c/\c.oneCell'=true:=by
  intro ho hi;obtain⟨b1,b2,b3⟩:=h5 i e c hi a2;refine⟨b1,b2.move (fun _ _ _ h=>h) (fun _ _ h=>h) _ fun b' q hb=>⟨rfl,fun _ h=>h,?_⟩,b3⟩;simp only [aM,aK] at hb |-;cases a with
  | true=>
   have:¬(off<=i/\i<off+n):=by omega
   simp [fW,hb,lK,this]
  | false=>
   have hn:=hn1 rfl;have:¬i=off:=by omega
   simp [fW,hb,lK,this]
 by_cases c1:i<off
 .simp only [c1,aO] at a1;exact old (.inl c1) a1
 simp only [c1,bE] at a1;by_cases c2:i<off+n
 .simp only [c2,aO] at a1
  -- given up
  have hl:i - off<y.cells.length:=by omega
  obtain⟨_,hcs⟩:=hyc (i - off) _ (aS hl);rw [show off+(i - off)=i by omega] at hcs;obtain⟨b1,b2,b3⟩:=h5 i _ c hcs a2;have he:e=D.s1 y.cells[i - off]:=by
   cases y with
   | agg ds=>simp only [D.s2,D.cells,cB] at a1 |-;rw [aS (by simpa [D.cells] using hl)] at a1;simp only [fA,aV] at a1;exact a1.symm
   | tup ds=>exact absurd rfl (hnt _)
   | _=>
    rw [D.s2_of (by intro cs h;cases h)] at a1;have h0:i - off=0:=by simp [D.cells] at hl;omega
    simp [D.s1,D.cells,h0] at a1 |-;exact a1.symm
  subst he;exact⟨b1.s1,Lk b1 b3,b3⟩
 simp only [c2,bE] at a1;exact old (.inr c2) a1
theorem Gg (c : Cfg) (t : TypeId) (x : Operand) (hd : dJ o st) (ho : o.op = .load t x) (h : jX P c o.dst t x st K) : Does P o st K := by
 have plain:iI P o.dst t x st K->Does P o st K:=fun h=>Zt t x hd ho h;unfold jX at h;split at h
 .rename_i a n d ht hdst;split at h
  .split at h
   .rename_i m off hx;split at h
    .rename_i cs hcs;split at h
     .rename_i y hld;obtain⟨⟨hn1,hpos⟩,hfit,hK⟩:=h;refine bL hd fun w g tmps hok=>?_;obtain⟨b,hb,hv⟩:=hok.rdL hx;obtain⟨v,hrun,hr,hown,hbox⟩:=Vn (hok.loc m b cs hb hcs) ht hld hn1 hpos hfit d (by simp);have hml:m<st.loc.length:=(aJ.1 hcs).1;have k1:=hok.parkLoc m (dK cs off y.s2.cells) (lK a (.loc m) off n d) (fun t ht=>by simp [lK,ht]) hml (fun b' cs' h1 h2 h3=>by
       rw [hb] at h1;rw [hcs] at h2;simp at h1 h2;subst h1;subst h2;exact hbox)
      refine⟨v,w, { g with X:=fW (lK a (.loc m) off n d) g.X },_,.inl ?_,hK,Fr.ren w g (lK a (.loc m) off n d),?_,rfl,by simp⟩
      .simp [execOp,ho,Instr.loadAt,hv,Instr.sureAddr,hrun]
      rw [hdst];exact k1.set d _ _ ⟨hr,hown⟩
     exact h.elim
    exact h.elim
   .rename_i m off hx;split at h
    .rename_i cs hcs;split at h
     .rename_i y hld;obtain⟨⟨hn1,hpos⟩,hfit,hK⟩:=h;refine bL hd fun w g tmps hok=>?_;have hra:=hok.rd x;simp only [St.rd,hx] at hra;generalize hv:ev tmps x=va at hra;cases hra with
      | ref _ _ b hb =>
       obtain⟨v,hrun,hr,hown,hbox⟩:=Vn (hok.obj m b cs hb hcs) ht hld hn1 hpos hfit d (by simp);have hml:m<st.obj.length:=(aJ.1 hcs).1;have k1:=hok.parkObj m (dK cs off y.s2.cells) (lK a (.obj m) off n d) (fun t ht=>by simp [lK,ht]) hml (fun b' cs' h1 h2 h3=>by
        rw [hb] at h1;rw [hcs] at h2;simp at h1 h2;subst h1;subst h2;exact hbox)
       refine⟨v,w, { g with X:=fW (lK a (.obj m) off n d) g.X },_,.inl ?_,hK,Fr.ren w g (lK a (.obj m) off n d),?_,rfl,by simp⟩
       .simp [execOp,ho,Instr.loadAt,hv,Instr.sureAddr,hrun]
       rw [hdst];exact k1.set d _ _ ⟨hr,hown⟩
     exact h.elim
    exact h.elim
   exact plain h
  exact plain h
 exact plain h
end
section
variable {P:Program}
def kP(xs:List Operand)(st:St):Prop:=∀x∈xs,(st.rd x).plain=true
def aHw(v:Value):D:=match v with
 | .slice none 0 0=> .v (.slice none 0 0)
 | v=>(D.ofV v).strip
def zK(st:St):Operand->D
 | .const v=>aHw v
 | x=>(st.rd x).strip
theorem pZ (hok:Ok w g st (cC tmps))(x:Operand)(hp:(st.rd x).plain=true):R g.M g.bs (zK st x) (ev tmps x)/\∀X h p,Own w g.M g.bs X h p (zK st x) (ev tmps x):=by
 cases x with
 | const v=>
  show R g.M g.bs (aHw v) v/\∀X h p,Own w g.M g.bs X h p (aHw v) v
  unfold aHw;split
  .exact⟨.v _ rfl,fun X h p=> .flat _ _ _ rfl⟩
  exact⟨(hok.rd (.const v)).strip,fun X h p=>kY (hok.rd (.const v)) (kU hp)⟩
 | tmp u=>exact⟨(hok.rd (.tmp u)).strip,fun X h p=>kY (hok.rd (.tmp u)) (kU hp)⟩
 | global u=>exact⟨(hok.rd (.global u)).strip,fun X h p=>kY (hok.rd (.global u)) (kU hp)⟩
 | func u=>exact⟨(hok.rd (.func u)).strip,fun X h p=>kY (hok.rd (.func u)) (kU hp)⟩
theorem kO {st':St} {x:Operand} (h:st'.rd x=st.rd x):zK st' x=zK st x:=by
 cases x <;> simp only [zK,h]
def gK(xs:List Operand)(st:St):List D:=xs.map (zK st)
def kJ(P:Program)(dst:Option Tmp)(f:Operand)(args:List Operand)(st:St)(K:St->Prop):Prop:=
 match st.rd f with
 | .clo (.func f) first caps => (∀ d ∈ first ++ caps, d.plain = true) /\ kP args st /\
   Ct P f (first.map D.strip++gK args st++caps.map D.strip) st.obj (fun r σ'=>K (({ st with obj:=σ' } :St).put dst (.d r)))
 | _=>False
def cD:Operand->Option Nat
 | .tmp s=>some s
 | _=>none
def tE(st:St):Operand->D
 | .tmp t=>st.rd (.tmp t)
 | x=>zK st x
theorem xP {st':St} {x:Operand} (h:st'.rd x=st.rd x):tE st' x=tE st x:=by
 cases x <;> simp only [tE,h,zK]
def mN(P:Program)(dst:Option Tmp)(f:FuncId)(args:List Operand)(st:St)(K:St->Prop):Prop:=
 (args.filterMap cD).Nodup/\(∀x∈args,wK (st.rdS x)=true/\(st.rd x).plain=true)/\
  Ct P f (args.map (tE st)) st.obj (fun r σ'=>K (({ st with env:=fT (args.map cD) st.env,obj:=σ' } :St).put dst (.d r)))
theorem yP {f:FuncId} {args:Array Value} (h:xV P f=true):(callFunc f args).run P w= .ok (.enter f args) w:=by
 unfold xV at h;cases hf:P.funcs[f]? with
 | none=>simp [hf] at h
 | some fn =>
  simp only [hf,fF,bne_iff_ne,ne_eq] at h;have h2:fn.body.isNone=false:=by
   cases hb:fn.body with
   | none=>simp [hb] at h
   | some b=>rfl
  have h1 : ¬ fn.name = "runtime.NumGoroutine" := h.1;have h3 : ¬ fn.body = none := by intro e; simp [e] at h2
  simp [callFunc,hf,h1,h3]
theorem Ea (hd:dJ o st)(f:FuncId)(ds:List D)(ts:List (Option Nat))(σ:List (List D))(hσ:σ=st.obj)
  (hfn:Ct P f ds σ (fun r σ'=>K (({ st with env:=fT ts st.env,obj:=σ' } :St).put o.dst (.d r)))) (hnt:∀t,some t∈ts->wK (st.env t)=true)
  (h:∀(w:World) (g:Gh) (tmps:Array Value),Ok w g st (cC tmps)->∃vs:Array Value,(execOp (ev tmps) o).run P w= .ok (.enter f vs) w/\vs.size=ds.length/\
   ∀(p:Nat) (d:D) (v:Value),ds[p]?=some d->vs[p]?=some v->R g.M g.bs d v/\((∀X h p,Own w g.M g.bs X h p d v)\/∃t,ts[p]?=some (some t)/\ts.findIdx? (· ==some t)=some p/\st.env t= .d d/\cC tmps t=v)):Does P o st K:=by
 subst hσ;intro w g tmps hok hn;obtain⟨vs,hrun,hsz,ha⟩:=h w g tmps hok;have hen:=hok.enter ds vs ts hsz ha;unfold Oper.wp;rw [hrun,Oper.upon_enter];refine(hfn.2 w _ vs hsz rfl hen).mono ?_;rintro e w' ⟨r,σ',x,gr,rfl,hK,hbl,hf,hk⟩;obtain⟨g',g1,g2,g3⟩:=hok.leave ts o.dst r x σ' hf hk hnt;have hdst:∀d,o.dst=some d->d<tmps.size:=by
  intro d hd';have hd2:d<st.n:=by simpa [dJ,hd'] using hd
  rw [hn];exact hd2
 refine⟨by simp [qD],_,g',hK,g2,?_,?_,by rw [g1];simp⟩
 .rw [yV tmps [] o.dst x hdst];exact g3
 rw [tZ,Pj];exact hn
theorem Md(n:Nat)(env:Nat->Slot):fT (List.replicate n none) env=env:=by
 funext t;have:(List.replicate n (none:Option Nat)).contains (some t)=false:=by
  rw [Bool.eq_false_iff];intro h;rw [List.contains_iff_mem] at h;have:=nK h;cases this
 simp [fT,this]
theorem lG (f:Operand)(args:Array Operand)(ats:Array TypeId)(hd:dJ o st)(ho:o.op= .call { callee:= .value f,args,argTypes:=ats })(h:kJ P o.dst f args.toList st K):Does P o st K:=by
 unfold kJ at h;split at h
 .rename_i fid first caps hf
  obtain⟨hp,ha,hfn⟩:=h;refine Ea hd fid (first.map D.strip++gK args.toList st++caps.map D.strip) (List.replicate (first.length+args.toList.length+caps.length) none) st.obj rfl ?_ (fun t ht=>by have:=nK ht;cases this) fun w g tmps hok=>?_
  .rw [Md];exact hfn
  have hr:=hok.rd f;rw [hf] at hr;generalize hv:ev tmps f=v at hr;cases hr with
  | clo _ _ _ v1 v2 l1 l2 h1 h2 =>
   refine⟨v1++args.map (ev tmps)++v2,?_,?_,fun p d v a1 a2=>?_⟩
   .simp [execOp,ho,resolve,hv,Deferred.ofValue,invoke,yP hfn.1]
   .simp [gK,l1,l2]
   have strip:∀(y:D),y.plain=true->R g.M g.bs y v->d=y.strip->R g.M g.bs d v/\∀X h p,Own w g.M g.bs X h p d v:=by
    rintro y hy hr rfl;exact⟨hr.strip,fun X h p=>kY hr (kU hy)⟩
   suffices hs:R g.M g.bs d v/\∀X h p,Own w g.M g.bs X h p d v from⟨hs.1,.inl hs.2⟩
   rw [bU] at a1;rw [Array.append_assoc] at a2;by_cases c1:p<first.length
   .rw [aX (by simpa using c1),cB,dG] at a1;obtain⟨y,hy,rfl⟩:=a1;rw [uV (by omega)] at a2;exact strip y (hp y (iD _ (aW hy))) (h1 p y v hy a2) rfl
   rw [bR (by simp;omega),cG] at a1;rw [Ha (by omega),l1] at a2;by_cases c2:p - first.length<args.toList.length
   .rw [aX (by simpa [gK] using c2)] at a1;rw [uV (by simpa using c2)] at a2;unfold gK at a1;rw [cB,dG] at a1;obtain⟨x,hx,rfl⟩:=a1;rw [zW,dG] at a2;obtain⟨x',hx',rfl⟩:=a2;rw [dA] at hx;rw [hx] at hx';simp at hx';subst hx';exact pZ hok x (ha x (aW (by rw [dA];exact hx)))
   rw [bR (by simpa [gK] using c2)] at a1;rw [Ha (by simpa using c2)] at a2;rw [cB,dG] at a1;obtain⟨y,hy,rfl⟩:=a1;simp only [gK,cG,Array.size_map,bP] at hy a2;exact strip y (hp y (uS _ (aW hy))) (h2 _ y v hy a2) rfl
 exact h.elim
theorem wN:∀(xs:List Operand) (p:Nat) (t:Nat),(xs.filterMap cD).Nodup->(xs.map cD)[p]?=some (some t)->(xs.map cD).findIdx? (· ==some t)=some p
 | [],p,t,_,h=>by simp at h
 | x :: xs, p, t, hn, h => by
  match p with
  | 0=>
   simp only [eW,pG,aV] at h;simp [uZ,h]
  | p + 1 =>
   have h':(xs.map cD)[p]?=some (some t):=by simpa using h
   have hne:cD x≠some t:=by
    intro e;have hmem:t∈xs.filterMap cD:=by
     rw [lT];rw [cB,dG] at h';obtain⟨y,hy,hy'⟩:=h';exact⟨y,aW hy,hy'⟩
    simp only [rN,e,oU] at hn;exact hn.1 hmem
   have hn':(xs.filterMap cD).Nodup:=by
    simp only [rN] at hn;split at hn
    .exact hn
    exact(oU.1 hn).2
   have ih:=wN xs p t hn' h';simp [uZ,hne,ih]
theorem xG (f:FuncId)(args:Array Operand)(ats:Array TypeId)(hd:dJ o st)(ho:o.op= .call { callee:= .value (.func f),args,argTypes:=ats })(h:mN P o.dst f args.toList st K):Does P o st K:=by
 obtain⟨hnd,hx,hfn⟩:=h;refine Ea hd f (args.toList.map (tE st)) (args.toList.map cD) st.obj rfl hfn (fun t ht=>?_) fun w g tmps hok=>?_
 .obtain⟨x,hx',e⟩:=bW.1 ht;cases x <;> simp [cD] at e;subst e;exact(hx _ hx').1
 refine⟨args.map (ev tmps),?_,by simp,fun p d v a1 a2=>?_⟩
 .have hfe:∀(t:Array Value),(⟨t, []⟩:Act).eval (.func f)= .func (.func f) #[] #[]:=fun _=>rfl;simp [execOp,ho,resolve,hfe,Deferred.ofValue,invoke,yP hfn.1]
 rw [cB,dG] at a1;obtain⟨x,h1,rfl⟩:=a1;rw [zW,dG] at a2;obtain⟨x',h2,rfl⟩:=a2;rw [dA] at h1;rw [h1] at h2;simp at h2;subst h2;have hmem:x∈args.toList:=aW (by rw [dA];exact h1);have hp:=(hx x hmem).2;cases x with
 | tmp s =>
  cases he:st.env s with
  | lref n off=>
   have e:st.rd (.tmp s)= .any:=by simp [St.rd,St.rdS,he]
   simp only [tE,e];exact⟨.any _,.inl fun X h p=> .flat _ _ _ rfl⟩
  | d y=>
   have e:st.rd (.tmp s)=y:=by simp [St.rd,St.rdS,he]
   have hpos:(args.toList.map cD)[p]?=some (some s):=by rw [cB,dA,h1];rfl
   refine⟨hok.rd (.tmp s),.inr ⟨s,hpos,wN _ p s hnd hpos,by show st.env s= .d (st.rd (.tmp s));rw [e];exact he,rfl⟩⟩
 | const u=>exact⟨(pZ hok (.const u) hp).1,.inl (pZ hok (.const u) hp).2⟩
 | func u=>exact⟨(pZ hok (.func u) hp).1,.inl (pZ hok (.func u) hp).2⟩
 | global u=>exact⟨(pZ hok (.global u) hp).1,.inl (pZ hok (.global u) hp).2⟩
end
end Go.Vm
