import Derived.Test.YtbdjepeabjangaaGreatVm12
set_option linter.all false
namespace Go.Vm
open Go
variable {K:St->Prop}{g:Gh}{o:Oper}{st:St}{t:TypeId}{ti:TypeInfo}{tmps:Array Value}{w:World}
section
variable {P:Program}
theorem Cg {e:TypeId} (h1:P.underlying t=some (.slice e))(h2:P.info? e=some ti)(a:Option Addr)(c:Nat)(ty:TypeId)(w:World):(Builtin.append_ #[t,t] ty #[.slice none 0 0,.slice a 0 c]).run P w= .ok (.slice none 0 0) w:=by
 have hfc:(Builtin.firstCells ti.size 0 (.slice a 0 c)).run P w= .ok #[] w:=by
  cases a with
  | none=>simp [Builtin.firstCells]
  | some a=>simp [Builtin.firstCells,loadCells,loadCellsFrom]
 simp [Builtin.append_,run_underlying h1,bH h2,Builtin.lenOf,hfc]
theorem zZ (hok:Ok w g st (bQ tmps)) {e:TypeId} {k by_:Nat} {zv:Value} (h1:P.underlying t=some (.slice e))(h2:P.info? e=some ti)(h3:ti.zero=some zv)(h5:ti.size=k)(h6:ti.bytes=by_)(h7:zv.cells.size=k)(h8:0<k)
  (d:Nat) (o:Bool) (xs:List D) (vx:Value) (hvx:R g.M g.bs (.sl o xs) vx) (hb:xs.length * by_<=140737488355328) (hm:xs.length<=maxLen) (hxs:∀d∈xs,d.ncells=k) (ty:TypeId):
  ∃v w' g',(Builtin.append_ #[t,t] ty #[.slice none 0 0,vx]).run P w= .ok v w'/\g'.bl=g.bl/\Fr w g w' g'/\Ok w' g' (st.set d (.d (.sl true xs))) (fun u=>if u=d then v else bQ tmps u):=by
 subst h5;subst h6;by_cases hx0:xs= []
 .subst hx0;obtain⟨a,c,rfl⟩:∃a c,vx= .slice a 0 c:=by
   cases hvx with
   | nil=>exact⟨_,_,rfl⟩
   | emp o a cap hm=>exact⟨_,_,rfl⟩
   | sl o' es b off n cap k vs hl hn=>subst hn;exact⟨_,_,rfl⟩
  exact⟨_,w,g,Cg h1 h2 a c ty w,rfl,Fr.refl w g,hok.set d _ _ ⟨.nil true,.sl _ _ _ (.inl ⟨_,_,rfl⟩)⟩⟩
 obtain⟨bx,offx,capx,vvx,rfl,l1,l2,l3,l4,l5,l6,l7⟩:=wP hok hvx hxs hx0;have hxlen:0<xs.length:=by cases xs <;> simp_all
 have hxsz:∀v∈vvx,v.cells.size=ti.size:=fun v hv=>(l6 v hv).1;have hnl:(vvx.flatMap fun v=>v.cells.toList).length=xs.length * ti.size:=by rw [jO vvx hxsz,l1]
 have hnews:∀(j:Nat) (u:Value),(vvx.flatMap fun v=>v.cells.toList)[j]?=some u->w.cell? ((⟨bx,offx,none⟩:Addr).add j)=some u:=fun j u hj=>(l7 j u hj).1;have hbig:xs.length<=9223372036854775807:=by unfold maxLen at hm;omega
 have hge:=grownCap_ge w xs.length 0 e;have hcm:grownCap w xs.length 0 e<=maxLen:=grownCap_le_maxLen w xs.length 0 e hm;obtain⟨g',b1,b2,b3⟩:=hok.drew.freshCap d e xs vvx ti.size (grownCap w xs.length 0 e) h8 l1 hge hcm hx0 l5 (fun i e c1=>hxs _ (aS c1)) l6
  ((vvx.flatMap fun v=>v.cells.toList).toArray++Builtin.zeroCells zv.cells (grownCap w xs.length 0 e - xs.length))
  (by
   rw [<- hnl,iB];exact tZ)
  (by
   simp only [pZ,eK,size_zeroCells,hnl,h7,<- cB];congr 1;omega)
 exact⟨_,_,g',run_append_nil (P:=P) w t ty e ti zv h1 h2 h3 ⟨bx,offx,none⟩ xs.length capx _ hnl hnews hxlen (by omega) (by omega),b1,(Fr.drew w g).trans b2,b3⟩
theorem Lf (t t2:TypeId)(s x:Operand)(hd:dD o st)(ho:o.op= .call { callee:= .builtin .append,args:=#[s,x],argTypes:=#[t,t2] })(h:oF P o.dst t t2 s x st K):Does P o st K:=by
 unfold oF at h;split at h
 .rename_i e k by_ z d es ow xs he hdst hs hx;obtain⟨ti,zv,h1,h2,h3,h4,h5,h6,h7,h8⟩:=gW he;obtain⟨⟨e2,ht2⟩,⟨hb,hm⟩,hes,hxs,h⟩:=h;have hrun:∀(tmps:Array Value) (w w':World) (v:Value),(Builtin.append_ #[t,t] o.type #[ev tmps s,ev tmps x]).run P w= .ok v w'->(execOp (ev tmps) o).run P w= .ok (.value v) w':=by
   intro tmps w w' v hr;rw [<- qR (ty:=o.type) h1 ht2] at hr;simp [execOp,ho,resolve,invoke,builtin,hr]
  split at h
  .rename_i ts;obtain⟨hne,hK⟩:=h;have hs':st.env ts= .d (.sl true es):=by
    cases he':st.env ts with
    | lref n off=>simp [St.rd,St.rdS,he'] at hs
    | d y=>simp [St.rd,St.rdS,he'] at hs;rw [hs]
   refine bE hd fun w g tmps hok=>?_;obtain⟨v,w',g',r1,r2,r3,r4⟩:=Ae hok h1 h2 h3 h5 h6 (by rw [h4];exact h7) h8 (z:=z) ts d hne ow es xs hs' (ev tmps x) (by have:=hok.rd x;rwa [hx] at this) hb hm hes hxs o.type;exact⟨v,w',g',_,.inl (hrun tmps w w' v r1),hK,r3,by rw [hdst];exact r4,rfl,by rw [r2];simp⟩
  .have hes0:es= []:=by
    simp only [St.rd,St.rdS,D.ofV,D.ofV1,D.sl.injEq] at hs;exact hs.2.symm
   subst hes0;simp only [aK,dO,dT] at h hb hm;refine bE hd fun w g tmps hok=>?_;obtain⟨v,w',g',r1,r2,r3,r4⟩:=zZ hok h1 h2 h3 h5 h6 (by rw [h4];exact h7) h8 d ow xs (ev tmps x) (by have:=hok.rd x;rwa [hx] at this) hb hm hxs o.type;exact⟨v,w',g',_,.inl (hrun tmps w w' v r1),h,r3,by rw [hdst];exact r4,rfl,by rw [r2];simp⟩
  exact h.elim
 exact h.elim
def kH(a:Bool)(h:Holder)(off n d:Nat):jK->jK:=fun t=>
 if t.1=h then(match t.2 with
  | i::q=>if a then(if off<=i/\i<off+n then(.slot d,(i - off)::q)else t)else(if i=off then(.slot d,q)else t)
  | []=>t)else t
def iW (P : Program) (c : Cfg) (dst : Option Tmp) (t : TypeId) (x : Operand) (st : St) (K : St -> Prop) : Prop :=
 match fE P t,dst with
 | some (a, n), some d =>
  if c.take.contains d then
   match st.rdS x with
   | .lref m off => match st.loc[m]? with
    | some cs=>match sH a n (cs.drop off)with
     | some y=>((a=false->n=1)/\0<n)/\off+n<=cs.length/\K (({ st with loc:=st.loc.set m (dE cs off y.s2.cells) } :St).set d (.d y))
     | none=>False
    | none=>False
   | .d (.ref m off) => match st.obj[m]? with
    | some cs=>match sH a n (cs.drop off)with
     | some y=>((a=false->n=1)/\0<n)/\off+n<=cs.length/\K (({ st with obj:=st.obj.set m (dE cs off y.s2.cells) } :St).set d (.d y))
     | none=>False
    | none=>False
   | _=>gV P dst t x st K
  else gV P dst t x st K
 | _,_=>gV P dst t x st K
theorem Re {hd:Holder} {b:Nat} {cs:List D} {a:Bool} {n off:Nat} {y:D} (hbx:BoxOk w g hd b cs)(ht:fE P t=some (a,n))(hld:sH a n (cs.drop off)=some y)(hn1:a=false->n=1)(hpos:0<n)(hfit:off+n<=cs.length)(d:Nat)(hhd:∀t,hd≠ .slot t):
  ∃v,(loadVar t ⟨b,off,none⟩).run P w= .ok v w/\R g.M g.bs y v/\Own w g.M g.bs (fG (kH a hd off n d) g.X) (.slot d) [] y v/\BoxOk w { g with X:=fG (kH a hd off n d) g.X } hd b (dE cs off y.s2.cells):=by
 obtain⟨v,hrun,hr⟩:=sB (P:=P) (xN hbx off) ht hld;have hnt:=pH (xN hbx off) hld;obtain⟨cur,E,h1,h2,h3,h4,h5⟩:=hbx.resolve_left (by intro e;rw [e] at hfit;simp at hfit;omega);have hb2:BoxOk w g hd b cs:= .inr ⟨cur,E,h1,h2,h3,h4,h5⟩;obtain⟨td,ti,i1,i2,i3,i4⟩:=lD ht
 -- the value is the cells
 have hv:∀(i:Nat) (c:Value),v.cells[i]?=some c->i<n/\cur[off+i]?=some c:=by
  intro i c hi;cases a with
  | true =>
   simp only [sH,aJ] at hld;split at hld
   .have e1:∀(j:Nat) (x:Value),((cur.toList.drop off).take n)[j]?=some x->w.cell? ((⟨b,off,none⟩:Addr).add j)=some x:=by
     intro j x hj;rw [Addr.add_none,cell_of_row w b (off+j) cur E (0,0) h1];rw [dX] at hj;split at hj
     .rw [jG,cQ] at hj;exact hj
     cases hj
    have hlen:((cur.toList.drop off).take n).length=n:=by
     rw [bB,dI,bF,h2];omega
    have hl:=run_loadCells_list (P:=P) w ⟨b,off,none⟩ ((cur.toList.drop off).take n) e1;rw [hlen] at hl;have:(loadVar t ⟨b,off,none⟩).run P w= .ok (.agg ((cur.toList.drop off).take n).toArray) w:=by simp [loadVar,kT i1,i3,bH i2,i4,hl]
    rw [this] at hrun;simp only [Result.ok.injEq,nJ] at hrun;subst hrun;simp only [Value.cells] at hi;rw [eO,dX] at hi;split at hi
    .rename_i hin;rw [jG,cQ] at hi;exact⟨hin,hi⟩
    cases hi
   cases hld
  | false =>
   have hn:=hn1 rfl;subst hn;have hlt:off<cur.size:=by omega
   have:(loadVar t ⟨b,off,none⟩).run P w= .ok cur[off] w:=by
    simp only [loadVar,Sem.run_bind,kT i1,i3,Result.andThen_ok,fL,aZ];exact sA (by rw [cell_of_row w b off cur E (0,0) h1];exact aV hlt)
   rw [this] at hrun;simp only [Result.ok.injEq,nJ] at hrun;subst hrun;have hone:cur[off].oneCell'=true:=by
    have hc:off<cs.length:=by omega
    exact(h5 off _ _ (aN hc) (aV hlt)).2.2
   rw [Value.cells_one hone] at hi
   match i with
   | 0=>simp at hi;subst hi;exact⟨by omega,aV hlt⟩
   | i+1=>simp at hi
 have hyc:∀(i:Nat) (e:D),y.cells[i]?=some e->i<n/\cs[off+i]?=some e:=by
  intro i e hi;cases a with
  | true =>
   simp only [sH,aJ] at hld;split at hld
   .simp only [aP] at hld;subst hld;simp only [D.cells] at hi;rw [dX] at hi;split at hi
    .rename_i hin;rw [jG] at hi;exact⟨hin,hi⟩
    cases hi
   cases hld
  | false =>
   have hn:=hn1 rfl;subst hn;simp only [sH,fL,aZ,nS] at hld;have hna:∀ds,y≠ .agg ds:=by
    intro ds e;subst e;have hlt:off<cur.size:=by rw [h2];exact(aH.1 hld).1
    have hc:=h5 off _ _ hld (aV hlt);exact(hc.1.one hc.2.2).1 _ rfl
   have hc1:y.cells= [y]:=by cases y <;> first | rfl | exact absurd rfl (hna _)
   rw [hc1] at hi
   match i with
   | 0=>simp at hi;subst hi;exact⟨by omega,hld⟩
   | i+1=>simp at hi
 have hylen:y.cells.length=n:=by
  cases a with
  | true=>
   simp only [sH,aJ] at hld;split at hld
   .simp only [aP] at hld;subst hld;simp only [D.cells,bB,dI];omega
   cases hld
  | false =>
   have hn:=hn1 rfl;subst hn;simp only [sH,fL,aZ,nS] at hld;have hna:∀ds,y≠ .agg ds:=by
    intro ds e;subst e;have hlt:off<cur.size:=by rw [h2];exact(aH.1 hld).1
    have hc:=h5 off _ _ hld (aV hlt);exact(hc.1.one hc.2.2).1 _ rfl
   cases y <;> first | rfl | exact absurd rfl (hna _)
 refine⟨v,hrun,hr,?_,?_⟩
 .cases a with
  | true =>
   simp only [sH,aJ] at hld;split at hld
   .simp only [aP] at hld;cases hr with
    | agg ds vs hl hrr h1'=>
     refine .agg _ ds vs fun i e c a1 a2=>?_;obtain⟨hin,hcs⟩:=hyc i e a1;obtain⟨_,hcu⟩:=hv i c (by simpa [Value.cells] using a2);refine(h5 _ e c hcs hcu).2.1.move (fun _ _ _ h=>h) (fun _ _ h=>h) _ fun b' q hb=>⟨rfl,fun _ h=>h,?_⟩;simp only [aK,aO] at hb |-;simp [fG,hb,kH,hin]
    | any=>simp at hld
    | v=>simp at hld
    | nil=>simp at hld
    | emp=>simp at hld
    | sl=>simp at hld
    | tup=>simp at hld
    | adr=>simp at hld
    | ref=>simp at hld
    | clo=>simp at hld
    | xs=>simp at hld
    | xl=>simp at hld
    | slo=>simp at hld
    | mref=>simp at hld
    | mp=>simp at hld
    | mit=>simp at hld
    | mo=>simp at hld
    | mz=>simp at hld
    | ifc=>simp at hld
   cases hld
  | false =>
   have hn:=hn1 rfl;subst hn;simp only [sH,fL,aZ,nS] at hld;have hlt:off<cur.size:=by rw [h2];exact(aH.1 hld).1
   have hc:=h5 off _ _ hld (aV hlt);have hvv:v=cur[off]:=by
    have:=(hv 0 v (by
     have hone:v.oneCell'=true:=by
      have:(loadVar t ⟨b,off,none⟩).run P w= .ok cur[off] w:=by
       simp only [loadVar,Sem.run_bind,kT i1,i3,Result.andThen_ok,fL,aZ];exact sA (by rw [cell_of_row w b off cur E (0,0) h1];exact aV hlt)
      rw [this] at hrun;simp only [Result.ok.injEq,nJ] at hrun;rw [<- hrun];exact hc.2.2
     rw [Value.cells_one hone];rfl)).2
    rw [iJ,aV hlt] at this;simpa using this.symm
   rw [hvv];refine hc.2.1.move (fun _ _ _ h=>h) (fun _ _ h=>h) _ fun b' q hb=>⟨rfl,fun _ h=>h,?_⟩;simp only [aK,aO] at hb |-;simp [fG,hb,kH]
 refine .inr ⟨cur,E,h1,?_,?_,h4,fun i e c a1 a2=>?_⟩
 .unfold dE;rw [gA (by rw [<- iZ,pQ,iZ,hylen];exact hfit),h2]
 .simp [fG,h3,kH]
 have hs2:y.s2.cells.length=n:=by rw [<- iZ,pQ,iZ,hylen]
 unfold dE at a1;rw [eA (by rw [hs2];exact hfit),hs2] at a1;have old:(i<off\/¬i<off+n)->cs[i]?=some e->R g.M g.bs e c/\Own w g.M g.bs (fG (kH a hd off n d) g.X) hd [i] e c/\c.oneCell'=true:=by
  intro ho hi;obtain⟨b1,b2,b3⟩:=h5 i e c hi a2;refine⟨b1,b2.move (fun _ _ _ h=>h) (fun _ _ h=>h) _ fun b' q hb=>⟨rfl,fun _ h=>h,?_⟩,b3⟩;simp only [aO,aK] at hb |-;cases a with
  | true=>
   have:¬(off<=i/\i<off+n):=by omega
   simp [fG,hb,kH,this]
  | false=>
   have hn:=hn1 rfl;have:¬i=off:=by omega
   simp [fG,hb,kH,this]
 by_cases c1:i<off
 .simp only [c1,aJ] at a1;exact old (.inl c1) a1
 simp only [c1,aZ] at a1;by_cases c2:i<off+n
 .simp only [c2,aJ] at a1
  -- given up
  have hl:i - off<y.cells.length:=by omega
  obtain⟨_,hcs⟩:=hyc (i - off) _ (aN hl);rw [show off+(i - off)=i by omega] at hcs;obtain⟨b1,b2,b3⟩:=h5 i _ c hcs a2;have he:e=D.s1 y.cells[i - off]:=by
   cases y with
   | agg ds=>simp only [D.s2,D.cells,bP] at a1 |-;rw [aN (by simpa [D.cells] using hl)] at a1;simp only [eT,aP] at a1;exact a1.symm
   | tup ds=>exact absurd rfl (hnt _)
   | _=>
    rw [D.s2_of (by intro cs h;cases h)] at a1;have h0:i - off=0:=by simp [D.cells] at hl;omega
    simp [D.s1,D.cells,h0] at a1 |-;exact a1.symm
  subst he;exact⟨b1.s1,Hp b1 b3,b3⟩
 simp only [c2,aZ] at a1;exact old (.inr c2) a1
theorem Dm (c : Cfg) (t : TypeId) (x : Operand) (hd : dD o st) (ho : o.op = .load t x) (h : iW P c o.dst t x st K) : Does P o st K := by
 have plain:gV P o.dst t x st K->Does P o st K:=fun h=>Vu t x hd ho h;unfold iW at h;split at h
 .rename_i a n d ht hdst;split at h
  .split at h
   .rename_i m off hx;split at h
    .rename_i cs hcs;split at h
     .rename_i y hld;obtain⟨⟨hn1,hpos⟩,hfit,hK⟩:=h;refine bE hd fun w g tmps hok=>?_;obtain⟨b,hb,hv⟩:=hok.rdL hx;obtain⟨v,hrun,hr,hown,hbox⟩:=Re (hok.loc m b cs hb hcs) ht hld hn1 hpos hfit d (by simp);have hml:m<st.loc.length:=(aH.1 hcs).1;have k1:=hok.parkLoc m (dE cs off y.s2.cells) (kH a (.loc m) off n d) (fun t ht=>by simp [kH,ht]) hml (fun b' cs' h1 h2 h3=>by
       rw [hb] at h1;rw [hcs] at h2;simp at h1 h2;subst h1;subst h2;exact hbox)
      refine⟨v,w, { g with X:=fG (kH a (.loc m) off n d) g.X },_,.inl ?_,hK,Fr.ren w g (kH a (.loc m) off n d),?_,rfl,by simp⟩
      .simp [execOp,ho,Instr.loadAt,hv,Instr.sureAddr,hrun]
      rw [hdst];exact k1.set d _ _ ⟨hr,hown⟩
     exact h.elim
    exact h.elim
   .rename_i m off hx;split at h
    .rename_i cs hcs;split at h
     .rename_i y hld;obtain⟨⟨hn1,hpos⟩,hfit,hK⟩:=h;refine bE hd fun w g tmps hok=>?_;have hra:=hok.rd x;simp only [St.rd,hx] at hra;generalize hv:ev tmps x=va at hra;cases hra with
      | ref _ _ b hb =>
       obtain⟨v,hrun,hr,hown,hbox⟩:=Re (hok.obj m b cs hb hcs) ht hld hn1 hpos hfit d (by simp);have hml:m<st.obj.length:=(aH.1 hcs).1;have k1:=hok.parkObj m (dE cs off y.s2.cells) (kH a (.obj m) off n d) (fun t ht=>by simp [kH,ht]) hml (fun b' cs' h1 h2 h3=>by
        rw [hb] at h1;rw [hcs] at h2;simp at h1 h2;subst h1;subst h2;exact hbox)
       refine⟨v,w, { g with X:=fG (kH a (.obj m) off n d) g.X },_,.inl ?_,hK,Fr.ren w g (kH a (.obj m) off n d),?_,rfl,by simp⟩
       .simp [execOp,ho,Instr.loadAt,hv,Instr.sureAddr,hrun]
       rw [hdst];exact k1.set d _ _ ⟨hr,hown⟩
     exact h.elim
    exact h.elim
   exact plain h
  exact plain h
 exact plain h
end
section
variable {P:Program}
def jS(xs:List Operand)(st:St):Prop:=∀x∈xs,(st.rd x).plain=true
def aBe(v:Value):D:=match v with
 | .slice none 0 0=> .v (.slice none 0 0)
 | v=>(D.ofV v).strip
def wE(st:St):Operand->D
 | .const v=>aBe v
 | x=>(st.rd x).strip
theorem oG (hok:Ok w g st (bQ tmps))(x:Operand)(hp:(st.rd x).plain=true):R g.M g.bs (wE st x) (ev tmps x)/\∀X h p,Own w g.M g.bs X h p (wE st x) (ev tmps x):=by
 cases x with
 | const v=>
  show R g.M g.bs (aBe v) v/\∀X h p,Own w g.M g.bs X h p (aBe v) v
  unfold aBe;split
  .exact⟨.v _ rfl,fun X h p=> .flat _ _ _ rfl⟩
  exact⟨(hok.rd (.const v)).strip,fun X h p=>jY (hok.rd (.const v)) (jT hp)⟩
 | tmp u=>exact⟨(hok.rd (.tmp u)).strip,fun X h p=>jY (hok.rd (.tmp u)) (jT hp)⟩
 | global u=>exact⟨(hok.rd (.global u)).strip,fun X h p=>jY (hok.rd (.global u)) (jT hp)⟩
 | func u=>exact⟨(hok.rd (.func u)).strip,fun X h p=>jY (hok.rd (.func u)) (jT hp)⟩
theorem jU {st':St} {x:Operand} (h:st'.rd x=st.rd x):wE st' x=wE st x:=by
 cases x <;> simp only [wE,h]
def fY(xs:List Operand)(st:St):List D:=xs.map (wE st)
def jH(P:Program)(dst:Option Tmp)(f:Operand)(args:List Operand)(st:St)(K:St->Prop):Prop:=
 match st.rd f with
 | .clo (.func f) first caps => (∀ d ∈ first ++ caps, d.plain = true) /\ jS args st /\
   Ct P f (first.map D.strip++fY args st++caps.map D.strip) st.obj (fun r σ'=>K (({ st with obj:=σ' } :St).put dst (.d r)))
 | _=>False
def bR:Operand->Option Nat
 | .tmp s=>some s
 | _=>none
def rH(st:St):Operand->D
 | .tmp t=>st.rd (.tmp t)
 | x=>wE st x
theorem uQ {st':St} {x:Operand} (h:st'.rd x=st.rd x):rH st' x=rH st x:=by
 cases x <;> simp only [rH,h,wE]
def lC(P:Program)(dst:Option Tmp)(f:FuncId)(args:List Operand)(st:St)(K:St->Prop):Prop:=
 (args.filterMap bR).Nodup/\(∀x∈args,uJ (st.rdS x)=true/\(st.rd x).plain=true)/\
  Ct P f (args.map (rH st)) st.obj (fun r σ'=>K (({ st with env:=fF (args.map bR) st.env,obj:=σ' } :St).put dst (.d r)))
theorem vX {f:FuncId} {args:Array Value} (h:vO P f=true):(callFunc f args).run P w= .ok (.enter f args) w:=by
 unfold vO at h;cases hf:P.funcs[f]? with
 | none=>simp [hf] at h
 | some fn =>
  simp only [hf,fZ,bne_iff_ne,ne_eq] at h;have h2:fn.body.isNone=false:=by
   cases hb:fn.body with
   | none=>simp [hb] at h
   | some b=>rfl
  have h1 : ¬ fn.name = "runtime.NumGoroutine" := h.1;have h3 : ¬ fn.body = none := by intro e; simp [e] at h2
  simp [callFunc,hf,h1,h3]
theorem Cm (hd:dD o st)(f:FuncId)(ds:List D)(ts:List (Option Nat))(σ:List (List D))(hσ:σ=st.obj)
  (hfn:Ct P f ds σ (fun r σ'=>K (({ st with env:=fF ts st.env,obj:=σ' } :St).put o.dst (.d r)))) (hnt:∀t,some t∈ts->uJ (st.env t)=true)
  (h:∀(w:World) (g:Gh) (tmps:Array Value),Ok w g st (bQ tmps)->∃vs:Array Value,(execOp (ev tmps) o).run P w= .ok (.enter f vs) w/\vs.size=ds.length/\
   ∀(p:Nat) (d:D) (v:Value),ds[p]?=some d->vs[p]?=some v->R g.M g.bs d v/\((∀X h p,Own w g.M g.bs X h p d v)\/∃t,ts[p]?=some (some t)/\ts.findIdx? (· ==some t)=some p/\st.env t= .d d/\bQ tmps t=v)):Does P o st K:=by
 subst hσ;intro w g tmps hok hn;obtain⟨vs,hrun,hsz,ha⟩:=h w g tmps hok;have hen:=hok.enter ds vs ts hsz ha;unfold Oper.wp;rw [hrun,Oper.upon_enter];refine(hfn.2 w _ vs hsz rfl hen).mono ?_;rintro e w' ⟨r,σ',x,gr,rfl,hK,hbl,hf,hk⟩;obtain⟨g',g1,g2,g3⟩:=hok.leave ts o.dst r x σ' hf hk hnt;have hdst:∀d,o.dst=some d->d<tmps.size:=by
  intro d hd';have hd2:d<st.n:=by simpa [dD,hd'] using hd
  rw [hn];exact hd2
 refine⟨by simp [oV],_,g',hK,g2,?_,?_,by rw [g1];simp⟩
 .rw [wN tmps [] o.dst x hdst];exact g3
 rw [rX,Kt];exact hn
theorem Gy(n:Nat)(env:Nat->Slot):fF (List.replicate n none) env=env:=by
 funext t;have:(List.replicate n (none:Option Nat)).contains (some t)=false:=by
  rw [Bool.eq_false_iff];intro h;rw [List.contains_iff_mem] at h;have:=lW h;cases this
 simp [fF,this]
theorem jX (f:Operand)(args:Array Operand)(ats:Array TypeId)(hd:dD o st)(ho:o.op= .call { callee:= .value f,args,argTypes:=ats })(h:jH P o.dst f args.toList st K):Does P o st K:=by
 unfold jH at h;split at h
 .rename_i fid first caps hf
  obtain⟨hp,ha,hfn⟩:=h;refine Cm hd fid (first.map D.strip++fY args.toList st++caps.map D.strip) (List.replicate (first.length+args.toList.length+caps.length) none) st.obj rfl ?_ (fun t ht=>by have:=lW ht;cases this) fun w g tmps hok=>?_
  .rw [Gy];exact hfn
  have hr:=hok.rd f;rw [hf] at hr;generalize hv:ev tmps f=v at hr;cases hr with
  | clo _ _ _ v1 v2 l1 l2 h1 h2 =>
   refine⟨v1++args.map (ev tmps)++v2,?_,?_,fun p d v a1 a2=>?_⟩
   .simp [execOp,ho,resolve,hv,Deferred.ofValue,invoke,vX hfn.1]
   .simp [fY,l1,l2]
   have strip:∀(y:D),y.plain=true->R g.M g.bs y v->d=y.strip->R g.M g.bs d v/\∀X h p,Own w g.M g.bs X h p d v:=by
    rintro y hy hr rfl;exact⟨hr.strip,fun X h p=>jY hr (jT hy)⟩
   suffices hs:R g.M g.bs d v/\∀X h p,Own w g.M g.bs X h p d v from⟨hs.1,.inl hs.2⟩
   rw [bN] at a1;rw [Array.append_assoc] at a2;by_cases c1:p<first.length
   .rw [aU (by simpa using c1),bP,cU] at a1;obtain⟨y,hy,rfl⟩:=a1;rw [uB (by omega)] at a2;exact strip y (hp y (gQ _ (aS hy))) (h1 p y v hy a2) rfl
   rw [bI (by simp;omega),cC] at a1;rw [Ek (by omega),l1] at a2;by_cases c2:p - first.length<args.toList.length
   .rw [aU (by simpa [fY] using c2)] at a1;rw [uB (by simpa using c2)] at a2;unfold fY at a1;rw [bP,cU] at a1;obtain⟨x,hx,rfl⟩:=a1;rw [yX,cU] at a2;obtain⟨x',hx',rfl⟩:=a2;rw [cQ] at hx;rw [hx] at hx';simp at hx';subst hx';exact oG hok x (ha x (aS (by rw [cQ];exact hx)))
   rw [bI (by simpa [fY] using c2)] at a1;rw [Ek (by simpa using c2)] at a2;rw [bP,cU] at a1;obtain⟨y,hy,rfl⟩:=a1;simp only [fY,cC,Array.size_map,bF] at hy a2;exact strip y (hp y (xD _ (aS hy))) (h2 _ y v hy a2) rfl
 exact h.elim
theorem uK:∀(xs:List Operand) (p:Nat) (t:Nat),(xs.filterMap bR).Nodup->(xs.map bR)[p]?=some (some t)->(xs.map bR).findIdx? (· ==some t)=some p
 | [],p,t,_,h=>by simp at h
 | x :: xs, p, t, hn, h => by
  match p with
  | 0=>
   simp only [fM,nM,aP] at h;simp [tW,h]
  | p + 1 =>
   have h':(xs.map bR)[p]?=some (some t):=by simpa using h
   have hne:bR x≠some t:=by
    intro e;have hmem:t∈xs.filterMap bR:=by
     rw [kV];rw [bP,cU] at h';obtain⟨y,hy,hy'⟩:=h';exact⟨y,aS hy,hy'⟩
    simp only [qK,e,oB] at hn;exact hn.1 hmem
   have hn':(xs.filterMap bR).Nodup:=by
    simp only [qK] at hn;split at hn
    .exact hn
    exact(oB.1 hn).2
   have ih:=uK xs p t hn' h';simp [tW,hne,ih]
theorem vD (f:FuncId)(args:Array Operand)(ats:Array TypeId)(hd:dD o st)(ho:o.op= .call { callee:= .value (.func f),args,argTypes:=ats })(h:lC P o.dst f args.toList st K):Does P o st K:=by
 obtain⟨hnd,hx,hfn⟩:=h;refine Cm hd f (args.toList.map (rH st)) (args.toList.map bR) st.obj rfl hfn (fun t ht=>?_) fun w g tmps hok=>?_
 .obtain⟨x,hx',e⟩:=bY.1 ht;cases x <;> simp [bR] at e;subst e;exact(hx _ hx').1
 refine⟨args.map (ev tmps),?_,by simp,fun p d v a1 a2=>?_⟩
 .have hfe:∀(t:Array Value),(⟨t, []⟩:Act).eval (.func f)= .func (.func f) #[] #[]:=fun _=>rfl;simp [execOp,ho,resolve,hfe,Deferred.ofValue,invoke,vX hfn.1]
 rw [bP,cU] at a1;obtain⟨x,h1,rfl⟩:=a1;rw [yX,cU] at a2;obtain⟨x',h2,rfl⟩:=a2;rw [cQ] at h1;rw [h1] at h2;simp at h2;subst h2;have hmem:x∈args.toList:=aS (by rw [cQ];exact h1);have hp:=(hx x hmem).2;cases x with
 | tmp s =>
  cases he:st.env s with
  | lref n off=>
   have e:st.rd (.tmp s)= .any:=by simp [St.rd,St.rdS,he]
   simp only [rH,e];exact⟨.any _,.inl fun X h p=> .flat _ _ _ rfl⟩
  | d y=>
   have e:st.rd (.tmp s)=y:=by simp [St.rd,St.rdS,he]
   have hpos:(args.toList.map bR)[p]?=some (some s):=by rw [bP,cQ,h1];rfl
   refine⟨hok.rd (.tmp s),.inr ⟨s,hpos,uK _ p s hnd hpos,by show st.env s= .d (st.rd (.tmp s));rw [e];exact he,rfl⟩⟩
 | const u=>exact⟨(oG hok (.const u) hp).1,.inl (oG hok (.const u) hp).2⟩
 | func u=>exact⟨(oG hok (.func u) hp).1,.inl (oG hok (.func u) hp).2⟩
 | global u=>exact⟨(oG hok (.global u) hp).1,.inl (oG hok (.global u) hp).2⟩
end
end Go.Vm
