import Derived.Test.YtbgfljpnhhdkoaaGreatVm12
set_option linter.all false
namespace Go.Vm
open Go
variable {K:St->Prop}{g:Gh}{o:Oper}{st:St}{t:TypeId}{ti:TypeInfo}{tmps:Array Value}{w:World}
section
variable {P:Program}
theorem Ke {e:TypeId} (h1:P.underlying t=some (.slice e))(h2:P.info? e=some ti)(a:Option Addr)(c:Nat)(ty:TypeId)(w:World):(Builtin.append_ #[t,t] ty #[.slice none 0 0,.slice a 0 c]).run P w= .ok (.slice none 0 0) w:=by
 have hfc:(Builtin.firstCells ti.size 0 (.slice a 0 c)).run P w= .ok #[] w:=by
  cases a with
  | none=>simp [Builtin.firstCells]
  | some a=>simp [Builtin.firstCells,loadCells,loadCellsFrom]
 simp [Builtin.append_,run_underlying h1,bX h2,Builtin.lenOf,hfc]
theorem Iq (hok:Ok w g st (cL tmps)) {e:TypeId} {k by_:Nat} {zv:Value} (h1:P.underlying t=some (.slice e))(h2:P.info? e=some ti)(h3:ti.zero=some zv)(h5:ti.size=k)(h6:ti.bytes=by_)(h7:zv.cells.size=k)(h8:0<k)
  (d:Nat) (o:Bool) (xs:List D) (vx:Value) (hvx:R g.M g.bs (.sl o xs) vx) (hb:xs.length * by_<=140737488355328) (hm:xs.length<=maxLen) (hxs:∀d∈xs,d.ncells=k) (ty:TypeId):
  ∃v w' g',(Builtin.append_ #[t,t] ty #[.slice none 0 0,vx]).run P w= .ok v w'/\g'.bl=g.bl/\Fr w g w' g'/\Ok w' g' (st.set d (.d (.sl true xs))) (fun u=>if u=d then v else cL tmps u):=by
 subst h5;subst h6;by_cases hx0:xs= []
 .subst hx0;obtain⟨a,c,rfl⟩:∃a c,vx= .slice a 0 c:=by
   cases hvx with
   | nil=>exact⟨_,_,rfl⟩
   | emp o a cap hm=>exact⟨_,_,rfl⟩
   | sl o' es b off n cap k vs hl hn=>subst hn;exact⟨_,_,rfl⟩
  exact⟨_,w,g,Ke h1 h2 a c ty w,rfl,Fr.refl w g,hok.set d _ _ ⟨.nil true,.sl _ _ _ (.inl ⟨_,_,rfl⟩)⟩⟩
 obtain⟨bx,offx,capx,vvx,rfl,l1,l2,l3,l4,l5,l6,l7⟩:=Df hok hvx hxs hx0;have hxlen:0<xs.length:=by cases xs <;> simp_all
 have hxsz:∀v∈vvx,v.cells.size=ti.size:=fun v hv=>(l6 v hv).1;have hnl:(vvx.flatMap fun v=>v.cells.toList).length=xs.length * ti.size:=by rw [nM vvx hxsz,l1]
 have hnews:∀(j:Nat) (u:Value),(vvx.flatMap fun v=>v.cells.toList)[j]?=some u->w.cell? ((⟨bx,offx,none⟩:Addr).add j)=some u:=fun j u hj=>(l7 j u hj).1;have hbig:xs.length<=9223372036854775807:=by unfold maxLen at hm;omega
 have hge:=grownCap_ge w xs.length 0 e;have hcm:grownCap w xs.length 0 e<=maxLen:=grownCap_le_maxLen w xs.length 0 e hm;obtain⟨g',b1,b2,b3⟩:=hok.drew.freshCap d e xs vvx ti.size (grownCap w xs.length 0 e) h8 l1 hge hcm hx0 l5 (fun i e c1=>hxs _ (bA c1)) l6
  ((vvx.flatMap fun v=>v.cells.toList).toArray++Builtin.zeroCells zv.cells (grownCap w xs.length 0 e - xs.length))
  (by
   rw [<- hnl,kM];exact zT)
  (by
   simp only [vG,fT,size_zeroCells,hnl,h7,<- dP];congr 1;omega)
 exact⟨_,_,g',run_append_nil (P:=P) w t ty e ti zv h1 h2 h3 ⟨bx,offx,none⟩ xs.length capx _ hnl hnews hxlen (by omega) (by omega),b1,(Fr.drew w g).trans b2,b3⟩
theorem Wl (t t2:TypeId)(s x:Operand)(hd:eT o st)(ho:o.op= .call { callee:= .builtin .append,args:=#[s,x],argTypes:=#[t,t2] })(h:tC P o.dst t t2 s x st K):Does P o st K:=by
 unfold tC at h;split at h
 .rename_i e k by_ z d es ow xs he hdst hs hx;obtain⟨ti,zv,h1,h2,h3,h4,h5,h6,h7,h8⟩:=jV he;obtain⟨⟨e2,ht2⟩,⟨hb,hm⟩,hes,hxs,h⟩:=h;have hrun:∀(tmps:Array Value) (w w':World) (v:Value),(Builtin.append_ #[t,t] o.type #[ev tmps s,ev tmps x]).run P w= .ok v w'->(execOp (ev tmps) o).run P w= .ok (.value v) w':=by
   intro tmps w w' v hr;rw [<- wW (ty:=o.type) h1 ht2] at hr;simp [execOp,ho,resolve,invoke,builtin,hr]
  split at h
  .rename_i ts;obtain⟨hne,hK⟩:=h;have hs':st.env ts= .d (.sl true es):=by
    cases he':st.env ts with
    | lref n off=>simp [St.rd,St.rdS,he'] at hs
    | d y=>simp [St.rd,St.rdS,he'] at hs;rw [hs]
   refine cC hd fun w g tmps hok=>?_;obtain⟨v,w',g',r1,r2,r3,r4⟩:=Iv hok h1 h2 h3 h5 h6 (by rw [h4];exact h7) h8 (z:=z) ts d hne ow es xs hs' (ev tmps x) (by have:=hok.rd x;rwa [hx] at this) hb hm hes hxs o.type;exact⟨v,w',g',_,.inl (hrun tmps w w' v r1),hK,r3,by rw [hdst];exact r4,rfl,by rw [r2];simp⟩
  .have hes0:es= []:=by
    simp only [St.rd,St.rdS,D.ofV,D.ofV1,D.sl.injEq] at hs;exact hs.2.symm
   subst hes0;simp only [aN,dF,fG] at h hb hm;refine cC hd fun w g tmps hok=>?_;obtain⟨v,w',g',r1,r2,r3,r4⟩:=Iq hok h1 h2 h3 h5 h6 (by rw [h4];exact h7) h8 d ow xs (ev tmps x) (by have:=hok.rd x;rwa [hx] at this) hb hm hxs o.type;exact⟨v,w',g',_,.inl (hrun tmps w w' v r1),h,r3,by rw [hdst];exact r4,rfl,by rw [r2];simp⟩
  exact h.elim
 exact h.elim
def oC(a:Bool)(h:Holder)(off n d:Nat):nD->nD:=fun t=>
 if t.1=h then(match t.2 with
  | i::q=>if a then(if off<=i/\i<off+n then(.slot d,(i - off)::q)else t)else(if i=off then(.slot d,q)else t)
  | []=>t)else t
def lY (P : Program) (c : Cfg) (dst : Option Tmp) (t : TypeId) (x : Operand) (st : St) (K : St -> Prop) : Prop :=
 match kJ P t,dst with
 | some (a, n), some d =>
  if c.take.contains d then
   match st.rdS x with
   | .lref m off => match st.loc[m]? with
    | some cs=>match An a n (cs.drop off)with
     | some y=>((a=false->n=1)/\0<n)/\off+n<=cs.length/\K (({ st with loc:=st.loc.set m (eV cs off y.s2.cells) } :St).set d (.d y))
     | none=>False
    | none=>False
   | .d (.ref m off) => match st.obj[m]? with
    | some cs=>match An a n (cs.drop off)with
     | some y=>((a=false->n=1)/\0<n)/\off+n<=cs.length/\K (({ st with obj:=st.obj.set m (eV cs off y.s2.cells) } :St).set d (.d y))
     | none=>False
    | none=>False
   | _=>kE P dst t x st K
  else kE P dst t x st K
 | _,_=>kE P dst t x st K
theorem aDh {hd:Holder} {b:Nat} {cs:List D} {a:Bool} {n off:Nat} {y:D} (hbx:BoxOk w g hd b cs)(ht:kJ P t=some (a,n))(hld:An a n (cs.drop off)=some y)(hn1:a=false->n=1)(hpos:0<n)(hfit:off+n<=cs.length)(d:Nat)(hhd:∀t,hd≠ .slot t):
  ∃v,(loadVar t ⟨b,off,none⟩).run P w= .ok v w/\R g.M g.bs y v/\Own w g.M g.bs (gV (oC a hd off n d) g.X) (.slot d) [] y v/\BoxOk w { g with X:=gV (oC a hd off n d) g.X } hd b (eV cs off y.s2.cells):=by
 obtain⟨v,hrun,hr⟩:=yC (P:=P) (Ek hbx off) ht hld;have hnt:=uE (Ek hbx off) hld;obtain⟨cur,E,h1,h2,h3,h4,h5⟩:=hbx.resolve_left (by intro e;rw [e] at hfit;simp at hfit;omega);have hb2:BoxOk w g hd b cs:= .inr ⟨cur,E,h1,h2,h3,h4,h5⟩;obtain⟨td,ti,i1,i2,i3,i4⟩:=sY ht
 -- the value is the cells
 have hv:∀(i:Nat) (c:Value),v.cells[i]?=some c->i<n/\cur[off+i]?=some c:=by
  intro i c hi;cases a with
  | true =>
   simp only [An,aU] at hld;split at hld
   .have e1:∀(j:Nat) (x:Value),((cur.toList.drop off).take n)[j]?=some x->w.cell? ((⟨b,off,none⟩:Addr).add j)=some x:=by
     intro j x hj;rw [Addr.add_none,cell_of_row w b (off+j) cur E (0,0) h1];rw [eJ] at hj;split at hj
     .rw [kC,dZ] at hj;exact hj
     cases hj
    have hlen:((cur.toList.drop off).take n).length=n:=by
     rw [bF,dW,bY,h2];omega
    have hl:=run_loadCells_list (P:=P) w ⟨b,off,none⟩ ((cur.toList.drop off).take n) e1;rw [hlen] at hl;have:(loadVar t ⟨b,off,none⟩).run P w= .ok (.agg ((cur.toList.drop off).take n).toArray) w:=by simp [loadVar,oT i1,i3,bX i2,i4,hl]
    rw [this] at hrun;simp only [Result.ok.injEq,qJ] at hrun;subst hrun;simp only [Value.cells] at hi;rw [gK,eJ] at hi;split at hi
    .rename_i hin;rw [kC,dZ] at hi;exact⟨hin,hi⟩
    cases hi
   cases hld
  | false =>
   have hn:=hn1 rfl;subst hn;have hlt:off<cur.size:=by omega
   have:(loadVar t ⟨b,off,none⟩).run P w= .ok cur[off] w:=by
    simp only [loadVar,Sem.run_bind,oT i1,i3,Result.andThen_ok,iH,bJ];exact xP (by rw [cell_of_row w b off cur E (0,0) h1];exact bO hlt)
   rw [this] at hrun;simp only [Result.ok.injEq,qJ] at hrun;subst hrun;have hone:cur[off].oneCell'=true:=by
    have hc:off<cs.length:=by omega
    exact(h5 off _ _ (aQ hc) (bO hlt)).2.2
   rw [Value.cells_one hone] at hi
   match i with
   | 0=>simp at hi;subst hi;exact⟨by omega,bO hlt⟩
   | i+1=>simp at hi
 have hyc:∀(i:Nat) (e:D),y.cells[i]?=some e->i<n/\cs[off+i]?=some e:=by
  intro i e hi;cases a with
  | true =>
   simp only [An,aU] at hld;split at hld
   .simp only [bC] at hld;subst hld;simp only [D.cells] at hi;rw [eJ] at hi;split at hi
    .rename_i hin;rw [kC] at hi;exact⟨hin,hi⟩
    cases hi
   cases hld
  | false =>
   have hn:=hn1 rfl;subst hn;simp only [An,iH,bJ,qW] at hld;have hna:∀ds,y≠ .agg ds:=by
    intro ds e;subst e;have hlt:off<cur.size:=by rw [h2];exact(aM.1 hld).1
    have hc:=h5 off _ _ hld (bO hlt);exact(hc.1.one hc.2.2).1 _ rfl
   have hc1:y.cells= [y]:=by cases y <;> first | rfl | exact absurd rfl (hna _)
   rw [hc1] at hi
   match i with
   | 0=>simp at hi;subst hi;exact⟨by omega,hld⟩
   | i+1=>simp at hi
 have hylen:y.cells.length=n:=by
  cases a with
  | true=>
   simp only [An,aU] at hld;split at hld
   .simp only [bC] at hld;subst hld;simp only [D.cells,bF,dW];omega
   cases hld
  | false =>
   have hn:=hn1 rfl;subst hn;simp only [An,iH,bJ,qW] at hld;have hna:∀ds,y≠ .agg ds:=by
    intro ds e;subst e;have hlt:off<cur.size:=by rw [h2];exact(aM.1 hld).1
    have hc:=h5 off _ _ hld (bO hlt);exact(hc.1.one hc.2.2).1 _ rfl
   cases y <;> first | rfl | exact absurd rfl (hna _)
 refine⟨v,hrun,hr,?_,?_⟩
 .cases a with
  | true =>
   simp only [An,aU] at hld;split at hld
   .simp only [bC] at hld;cases hr with
    | agg ds vs hl hrr h1'=>
     refine .agg _ ds vs fun i e c a1 a2=>?_;obtain⟨hin,hcs⟩:=hyc i e a1;obtain⟨_,hcu⟩:=hv i c (by simpa [Value.cells] using a2);refine(h5 _ e c hcs hcu).2.1.move (fun _ _ _ h=>h) (fun _ _ h=>h) _ fun b' q hb=>⟨rfl,fun _ h=>h,?_⟩;simp only [aN,aP] at hb |-;simp [gV,hb,oC,hin]
    | any=>simp at hld
    | v=>simp at hld
    | nil=>simp at hld
    | emp=>simp at hld
    | sl=>simp at hld
    | tup=>simp at hld
    | adr=>simp at hld
    | ref=>simp at hld
    | clo=>simp at hld
    | xs=>simp at hld
    | xl=>simp at hld
    | slo=>simp at hld
    | mref=>simp at hld
    | mp=>simp at hld
    | mit=>simp at hld
    | mo=>simp at hld
    | mz=>simp at hld
    | ifc=>simp at hld
   cases hld
  | false =>
   have hn:=hn1 rfl;subst hn;simp only [An,iH,bJ,qW] at hld;have hlt:off<cur.size:=by rw [h2];exact(aM.1 hld).1
   have hc:=h5 off _ _ hld (bO hlt);have hvv:v=cur[off]:=by
    have:=(hv 0 v (by
     have hone:v.oneCell'=true:=by
      have:(loadVar t ⟨b,off,none⟩).run P w= .ok cur[off] w:=by
       simp only [loadVar,Sem.run_bind,oT i1,i3,Result.andThen_ok,iH,bJ];exact xP (by rw [cell_of_row w b off cur E (0,0) h1];exact bO hlt)
      rw [this] at hrun;simp only [Result.ok.injEq,qJ] at hrun;rw [<- hrun];exact hc.2.2
     rw [Value.cells_one hone];rfl)).2
    rw [jP,bO hlt] at this;simpa using this.symm
   rw [hvv];refine hc.2.1.move (fun _ _ _ h=>h) (fun _ _ h=>h) _ fun b' q hb=>⟨rfl,fun _ h=>h,?_⟩;simp only [aN,aP] at hb |-;simp [gV,hb,oC]
 refine .inr ⟨cur,E,h1,?_,?_,h4,fun i e c a1 a2=>?_⟩
 .unfold eV;rw [jB (by rw [<- mO,uX,mO,hylen];exact hfit),h2]
 .simp [gV,h3,oC]
 have hs2:y.s2.cells.length=n:=by rw [<- mO,uX,mO,hylen]
 unfold eV at a1;rw [fW (by rw [hs2];exact hfit),hs2] at a1;have old:(i<off\/¬i<off+n)->cs[i]?=some e->R g.M g.bs e c/\Own w g.M g.bs (gV (oC a hd off n d) g.X) hd [i] e c/\c.oneCell'=true:=by
  intro ho hi;obtain⟨b1,b2,b3⟩:=h5 i e c hi a2;refine⟨b1,b2.move (fun _ _ _ h=>h) (fun _ _ h=>h) _ fun b' q hb=>⟨rfl,fun _ h=>h,?_⟩,b3⟩;simp only [aP,aN] at hb |-;cases a with
  | true=>
   have:¬(off<=i/\i<off+n):=by omega
   simp [gV,hb,oC,this]
  | false=>
   have hn:=hn1 rfl;have:¬i=off:=by omega
   simp [gV,hb,oC,this]
 by_cases c1:i<off
 .simp only [c1,aU] at a1;exact old (.inl c1) a1
 simp only [c1,bJ] at a1;by_cases c2:i<off+n
 .simp only [c2,aU] at a1
  -- given up
  have hl:i - off<y.cells.length:=by omega
  obtain⟨_,hcs⟩:=hyc (i - off) _ (aQ hl);rw [show off+(i - off)=i by omega] at hcs;obtain⟨b1,b2,b3⟩:=h5 i _ c hcs a2;have he:e=D.s1 y.cells[i - off]:=by
   cases y with
   | agg ds=>simp only [D.s2,D.cells,bW] at a1 |-;rw [aQ (by simpa [D.cells] using hl)] at a1;simp only [gL,bC] at a1;exact a1.symm
   | tup ds=>exact absurd rfl (hnt _)
   | _=>
    rw [D.s2_of (by intro cs h;cases h)] at a1;have h0:i - off=0:=by simp [D.cells] at hl;omega
    simp [D.s1,D.cells,h0] at a1 |-;exact a1.symm
  subst he;exact⟨b1.s1,Tw b1 b3,b3⟩
 simp only [c2,bJ] at a1;exact old (.inr c2) a1
theorem Oi (c : Cfg) (t : TypeId) (x : Operand) (hd : eT o st) (ho : o.op = .load t x) (h : lY P c o.dst t x st K) : Does P o st K := by
 have plain:kE P o.dst t x st K->Does P o st K:=fun h=>aEz t x hd ho h;unfold lY at h;split at h
 .rename_i a n d ht hdst;split at h
  .split at h
   .rename_i m off hx;split at h
    .rename_i cs hcs;split at h
     .rename_i y hld;obtain⟨⟨hn1,hpos⟩,hfit,hK⟩:=h;refine cC hd fun w g tmps hok=>?_;obtain⟨b,hb,hv⟩:=hok.rdL hx;obtain⟨v,hrun,hr,hown,hbox⟩:=aDh (hok.loc m b cs hb hcs) ht hld hn1 hpos hfit d (by simp);have hml:m<st.loc.length:=(aM.1 hcs).1;have k1:=hok.parkLoc m (eV cs off y.s2.cells) (oC a (.loc m) off n d) (fun t ht=>by simp [oC,ht]) hml (fun b' cs' h1 h2 h3=>by
       rw [hb] at h1;rw [hcs] at h2;simp at h1 h2;subst h1;subst h2;exact hbox)
      refine⟨v,w, { g with X:=gV (oC a (.loc m) off n d) g.X },_,.inl ?_,hK,Fr.ren w g (oC a (.loc m) off n d),?_,rfl,by simp⟩
      .simp [execOp,ho,Instr.loadAt,hv,Instr.sureAddr,hrun]
      rw [hdst];exact k1.set d _ _ ⟨hr,hown⟩
     exact h.elim
    exact h.elim
   .rename_i m off hx;split at h
    .rename_i cs hcs;split at h
     .rename_i y hld;obtain⟨⟨hn1,hpos⟩,hfit,hK⟩:=h;refine cC hd fun w g tmps hok=>?_;have hra:=hok.rd x;simp only [St.rd,hx] at hra;generalize hv:ev tmps x=va at hra;cases hra with
      | ref _ _ b hb =>
       obtain⟨v,hrun,hr,hown,hbox⟩:=aDh (hok.obj m b cs hb hcs) ht hld hn1 hpos hfit d (by simp);have hml:m<st.obj.length:=(aM.1 hcs).1;have k1:=hok.parkObj m (eV cs off y.s2.cells) (oC a (.obj m) off n d) (fun t ht=>by simp [oC,ht]) hml (fun b' cs' h1 h2 h3=>by
        rw [hb] at h1;rw [hcs] at h2;simp at h1 h2;subst h1;subst h2;exact hbox)
       refine⟨v,w, { g with X:=gV (oC a (.obj m) off n d) g.X },_,.inl ?_,hK,Fr.ren w g (oC a (.obj m) off n d),?_,rfl,by simp⟩
       .simp [execOp,ho,Instr.loadAt,hv,Instr.sureAddr,hrun]
       rw [hdst];exact k1.set d _ _ ⟨hr,hown⟩
     exact h.elim
    exact h.elim
   exact plain h
  exact plain h
 exact plain h
end
section
variable {P:Program}
def nG(xs:List Operand)(st:St):Prop:=∀x∈xs,(st.rd x).plain=true
def aOd(v:Value):D:=match v with
 | .slice none 0 0=> .v (.slice none 0 0)
 | v=>(D.ofV v).strip
def Di(st:St):Operand->D
 | .const v=>aOd v
 | x=>(st.rd x).strip
theorem tL (hok:Ok w g st (cL tmps))(x:Operand)(hp:(st.rd x).plain=true):R g.M g.bs (Di st x) (ev tmps x)/\∀X h p,Own w g.M g.bs X h p (Di st x) (ev tmps x):=by
 cases x with
 | const v=>
  show R g.M g.bs (aOd v) v/\∀X h p,Own w g.M g.bs X h p (aOd v) v
  unfold aOd;split
  .exact⟨.v _ rfl,fun X h p=> .flat _ _ _ rfl⟩
  exact⟨(hok.rd (.const v)).strip,fun X h p=>nZ (hok.rd (.const v)) (nQ hp)⟩
 | tmp u=>exact⟨(hok.rd (.tmp u)).strip,fun X h p=>nZ (hok.rd (.tmp u)) (nQ hp)⟩
 | global u=>exact⟨(hok.rd (.global u)).strip,fun X h p=>nZ (hok.rd (.global u)) (nQ hp)⟩
 | func u=>exact⟨(hok.rd (.func u)).strip,fun X h p=>nZ (hok.rd (.func u)) (nQ hp)⟩
theorem lX {st':St} {x:Operand} (h:st'.rd x=st.rd x):Di st' x=Di st x:=by
 cases x <;> simp only [Di,h]
def iM(xs:List Operand)(st:St):List D:=xs.map (Di st)
def mA(P:Program)(dst:Option Tmp)(f:Operand)(args:List Operand)(st:St)(K:St->Prop):Prop:=
 match st.rd f with
 | .clo (.func f) first caps => (∀ d ∈ first ++ caps, d.plain = true) /\ nG args st /\
   Ct P f (first.map D.strip++iM args st++caps.map D.strip) st.obj (fun r σ'=>K (({ st with obj:=σ' } :St).put dst (.d r)))
 | _=>False
def cR:Operand->Option Nat
 | .tmp s=>some s
 | _=>none
def xG(st:St):Operand->D
 | .tmp t=>st.rd (.tmp t)
 | x=>Di st x
theorem Bi {st':St} {x:Operand} (h:st'.rd x=st.rd x):xG st' x=xG st x:=by
 cases x <;> simp only [xG,h,Di]
def pO(P:Program)(dst:Option Tmp)(f:FuncId)(args:List Operand)(st:St)(K:St->Prop):Prop:=
 (args.filterMap cR).Nodup/\(∀x∈args,Az (st.rdS x)=true/\(st.rd x).plain=true)/\
  Ct P f (args.map (xG st)) st.obj (fun r σ'=>K (({ st with env:=iI (args.map cR) st.env,obj:=σ' } :St).put dst (.d r)))
theorem Dy {f:FuncId} {args:Array Value} (h:Dx P f=true):(callFunc f args).run P w= .ok (.enter f args) w:=by
 unfold Dx at h;cases hf:P.funcs[f]? with
 | none=>simp [hf] at h
 | some fn =>
  simp only [hf,fQ,bne_iff_ne,ne_eq] at h;have h2:fn.body.isNone=false:=by
   cases hb:fn.body with
   | none=>simp [hb] at h
   | some b=>rfl
  have h1 : ¬ fn.name = "runtime.NumGoroutine" := h.1;have h3 : ¬ fn.body = none := by intro e; simp [e] at h2
  simp [callFunc,hf,h1,h3]
theorem Js (hd:eT o st)(f:FuncId)(ds:List D)(ts:List (Option Nat))(σ:List (List D))(hσ:σ=st.obj)
  (hfn:Ct P f ds σ (fun r σ'=>K (({ st with env:=iI ts st.env,obj:=σ' } :St).put o.dst (.d r)))) (hnt:∀t,some t∈ts->Az (st.env t)=true)
  (h:∀(w:World) (g:Gh) (tmps:Array Value),Ok w g st (cL tmps)->∃vs:Array Value,(execOp (ev tmps) o).run P w= .ok (.enter f vs) w/\vs.size=ds.length/\
   ∀(p:Nat) (d:D) (v:Value),ds[p]?=some d->vs[p]?=some v->R g.M g.bs d v/\((∀X h p,Own w g.M g.bs X h p d v)\/∃t,ts[p]?=some (some t)/\ts.findIdx? (· ==some t)=some p/\st.env t= .d d/\cL tmps t=v)):Does P o st K:=by
 subst hσ;intro w g tmps hok hn;obtain⟨vs,hrun,hsz,ha⟩:=h w g tmps hok;have hen:=hok.enter ds vs ts hsz ha;unfold Oper.wp;rw [hrun,Oper.upon_enter];refine(hfn.2 w _ vs hsz rfl hen).mono ?_;rintro e w' ⟨r,σ',x,gr,rfl,hK,hbl,hf,hk⟩;obtain⟨g',g1,g2,g3⟩:=hok.leave ts o.dst r x σ' hf hk hnt;have hdst:∀d,o.dst=some d->d<tmps.size:=by
  intro d hd';have hd2:d<st.n:=by simpa [eT,hd'] using hd
  rw [hn];exact hd2
 refine⟨by simp [sS],_,g',hK,g2,?_,?_,by rw [g1];simp⟩
 .rw [Dl tmps [] o.dst x hdst];exact g3
 rw [xI,Vk];exact hn
theorem Tt(n:Nat)(env:Nat->Slot):iI (List.replicate n none) env=env:=by
 funext t;have:(List.replicate n (none:Option Nat)).contains (some t)=false:=by
  rw [rA];intro h;rw [List.contains_iff_mem] at h;have:=qF h;cases this
 simp [iI,this]
theorem mJ (f:Operand)(args:Array Operand)(ats:Array TypeId)(hd:eT o st)(ho:o.op= .call { callee:= .value f,args,argTypes:=ats })(h:mA P o.dst f args.toList st K):Does P o st K:=by
 unfold mA at h;split at h
 .rename_i fid first caps hf
  obtain⟨hp,ha,hfn⟩:=h;refine Js hd fid (first.map D.strip++iM args.toList st++caps.map D.strip) (List.replicate (first.length+args.toList.length+caps.length) none) st.obj rfl ?_ (fun t ht=>by have:=qF ht;cases this) fun w g tmps hok=>?_
  .rw [Tt];exact hfn
  have hr:=hok.rd f;rw [hf] at hr;generalize hv:ev tmps f=v at hr;cases hr with
  | clo _ _ _ v1 v2 l1 l2 h1 h2 =>
   refine⟨v1++args.map (ev tmps)++v2,?_,?_,fun p d v a1 a2=>?_⟩
   .simp [execOp,ho,resolve,hv,Deferred.ofValue,invoke,Dy hfn.1]
   .simp [iM,l1,l2]
   have strip:∀(y:D),y.plain=true->R g.M g.bs y v->d=y.strip->R g.M g.bs d v/\∀X h p,Own w g.M g.bs X h p d v:=by
    rintro y hy hr rfl;exact⟨hr.strip,fun X h p=>nZ hr (nQ hy)⟩
   suffices hs:R g.M g.bs d v/\∀X h p,Own w g.M g.bs X h p d v from⟨hs.1,.inl hs.2⟩
   rw [bM] at a1;rw [Array.append_assoc] at a2;by_cases c1:p<first.length
   .rw [aW (by simpa using c1),bW,dY] at a1;obtain⟨y,hy,rfl⟩:=a1;rw [zV (by omega)] at a2;exact strip y (hp y (iS _ (bA hy))) (h1 p y v hy a2) rfl
   rw [bQ (by simp;omega),bI] at a1;rw [Oy (by omega),l1] at a2;by_cases c2:p - first.length<args.toList.length
   .rw [aW (by simpa [iM] using c2)] at a1;rw [zV (by simpa using c2)] at a2;unfold iM at a1;rw [bW,dY] at a1;obtain⟨x,hx,rfl⟩:=a1;rw [Hh,dY] at a2;obtain⟨x',hx',rfl⟩:=a2;rw [dZ] at hx;rw [hx] at hx';simp at hx';subst hx';exact tL hok x (ha x (bA (by rw [dZ];exact hx)))
   rw [bQ (by simpa [iM] using c2)] at a1;rw [Oy (by simpa using c2)] at a2;rw [bW,dY] at a1;obtain⟨y,hy,rfl⟩:=a1;simp only [iM,bI,Array.size_map,bY] at hy a2;exact strip y (hp y (uK _ (bA hy))) (h2 _ y v hy a2) rfl
 exact h.elim
theorem Ax:∀(xs:List Operand) (p:Nat) (t:Nat),(xs.filterMap cR).Nodup->(xs.map cR)[p]?=some (some t)->(xs.map cR).findIdx? (· ==some t)=some p
 | [],p,t,_,h=>by simp at h
 | x :: xs, p, t, hn, h => by
  match p with
  | 0=>
   simp only [eZ,uS,bC] at h;simp [zN,h]
  | p + 1 =>
   have h':(xs.map cR)[p]?=some (some t):=by simpa using h
   have hne:cR x≠some t:=by
    intro e;have hmem:t∈xs.filterMap cR:=by
     rw [oU];rw [bW,dY] at h';obtain⟨y,hy,hy'⟩:=h';exact⟨y,bA hy,hy'⟩
    simp only [sG,e,iR] at hn;exact hn.1 hmem
   have hn':(xs.filterMap cR).Nodup:=by
    simp only [sG] at hn;split at hn
    .exact hn
    exact(iR.1 hn).2
   have ih:=Ax xs p t hn' h';simp [zN,hne,ih]
theorem Bt (f:FuncId)(args:Array Operand)(ats:Array TypeId)(hd:eT o st)(ho:o.op= .call { callee:= .value (.func f),args,argTypes:=ats })(h:pO P o.dst f args.toList st K):Does P o st K:=by
 obtain⟨hnd,hx,hfn⟩:=h;refine Js hd f (args.toList.map (xG st)) (args.toList.map cR) st.obj rfl hfn (fun t ht=>?_) fun w g tmps hok=>?_
 .obtain⟨x,hx',e⟩:=aX.1 ht;cases x <;> simp [cR] at e;subst e;exact(hx _ hx').1
 refine⟨args.map (ev tmps),?_,by simp,fun p d v a1 a2=>?_⟩
 .have hfe:∀(t:Array Value),(⟨t, []⟩:Act).eval (.func f)= .func (.func f) #[] #[]:=fun _=>rfl;simp [execOp,ho,resolve,hfe,Deferred.ofValue,invoke,Dy hfn.1]
 rw [bW,dY] at a1;obtain⟨x,h1,rfl⟩:=a1;rw [Hh,dY] at a2;obtain⟨x',h2,rfl⟩:=a2;rw [dZ] at h1;rw [h1] at h2;simp at h2;subst h2;have hmem:x∈args.toList:=bA (by rw [dZ];exact h1);have hp:=(hx x hmem).2;cases x with
 | tmp s =>
  cases he:st.env s with
  | lref n off=>
   have e:st.rd (.tmp s)= .any:=by simp [St.rd,St.rdS,he]
   simp only [xG,e];exact⟨.any _,.inl fun X h p=> .flat _ _ _ rfl⟩
  | d y=>
   have e:st.rd (.tmp s)=y:=by simp [St.rd,St.rdS,he]
   have hpos:(args.toList.map cR)[p]?=some (some s):=by rw [bW,dZ,h1];rfl
   refine⟨hok.rd (.tmp s),.inr ⟨s,hpos,Ax _ p s hnd hpos,by show st.env s= .d (st.rd (.tmp s));rw [e];exact he,rfl⟩⟩
 | const u=>exact⟨(tL hok (.const u) hp).1,.inl (tL hok (.const u) hp).2⟩
 | func u=>exact⟨(tL hok (.func u) hp).1,.inl (tL hok (.func u) hp).2⟩
 | global u=>exact⟨(tL hok (.global u) hp).1,.inl (tL hok (.global u) hp).2⟩
end
end Go.Vm
