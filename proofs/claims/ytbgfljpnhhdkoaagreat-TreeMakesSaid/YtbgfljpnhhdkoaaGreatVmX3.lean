import Derived.Test.YtbgfljpnhhdkoaaGreatVm12
set_option linter.all false
namespace Go.Vm
open Go
variable {K:St->Prop}{e t:TypeId}{g:Gh}{k:Nat}{o:Oper}{st:St}{ti:TypeInfo}{tmps:Array Value}{val:Nat->Value}{w:World}
section
variable {P:Program}
theorem Kr (h1:P.underlying t=some (.slice e))(h2:P.info? e=some ti)(a:Option Addr)(c:Nat)(ty:TypeId)(w:World):(Builtin.append_ #[t,t] ty #[.slice none 0 0,.slice a 0 c]).run P w= .ok (.slice none 0 0) w:=by
  have hfc:(Builtin.firstCells ti.size 0 (.slice a 0 c)).run P w= .ok #[] w:=by
    cases a with
    | none=>simp [Builtin.firstCells]
    | some a=>simp [Builtin.firstCells,loadCells,loadCellsFrom]
  simp [Builtin.append_,run_underlying h1,cD h2,Builtin.lenOf,hfc]
theorem Ir (hok:Ok w g st (cJ tmps)) {by_:Nat} {zv:Value} (h1:P.underlying t=some (.slice e))(h2:P.info? e=some ti)(h3:ti.zero=some zv)(h5:ti.size=k)(h6:ti.bytes=by_)(h7:zv.cells.size=k)(h8:0<k)
    (d:Nat) (o:Bool) (xs:List D) (vx:Value) (hvx:R g.M g.bs (.sl o xs) vx) (hb:xs.length * by_<=140737488355328) (hm:xs.length<=maxLen) (hxs:∀d∈xs,d.ncells=k) (ty:TypeId):
    ∃v w' g',(Builtin.append_ #[t,t] ty #[.slice none 0 0,vx]).run P w= .ok v w'/\g'.bl=g.bl/\Fr w g w' g'/\Ok w' g' (st.set d (.d (.sl true xs))) (fun u=>if u=d then v else cJ tmps u):=by
  subst h5;subst h6;by_cases hx0:xs= []
  . subst hx0
    obtain⟨a,c,rfl⟩:∃a c,vx= .slice a 0 c:=by
      cases hvx with
      | nil=>exact⟨_,_,rfl⟩
      | emp o a cap hm=>exact⟨_,_,rfl⟩
      | sl o' es b off n cap k vs hl hn=>subst hn;exact⟨_,_,rfl⟩
    exact⟨_,w,g,Kr h1 h2 a c ty w,rfl,Fr.refl w g,hok.set d _ _ ⟨.nil true,.sl _ _ _ (.inl ⟨_,_,rfl⟩)⟩⟩
  obtain⟨bx,offx,capx,vvx,rfl,l1,l2,l3,l4,l5,l6,l7⟩:=Dv hok hvx hxs hx0;have hxlen:0<xs.length:=by cases xs <;> simp_all
  have hxsz:∀v∈vvx,v.cells.size=ti.size:=fun v hv=>(l6 v hv).1;have hnl:(vvx.flatMap fun v=>v.cells.toList).length=xs.length * ti.size:=by rw [lK vvx hxsz,l1]
  have hnews:∀(j:Nat) (u:Value),(vvx.flatMap fun v=>v.cells.toList)[j]?=some u->w.cell? ((⟨bx,offx,none⟩:Addr).add j)=some u:=fun j u hj=>(l7 j u hj).1;have hbig:xs.length<=9223372036854775807:=by unfold maxLen at hm;omega
  have hge:=grownCap_ge w xs.length 0 e;have hcm:grownCap w xs.length 0 e<=maxLen:=grownCap_le_maxLen w xs.length 0 e hm;obtain⟨g',b1,b2,b3⟩:=hok.drew.freshCap d e xs vvx ti.size (grownCap w xs.length 0 e) h8 l1 hge hcm hx0 l5 (fun i e c1=>hxs _ (bE c1)) l6
    ((vvx.flatMap fun v=>v.cells.toList).toArray++Builtin.zeroCells zv.cells (grownCap w xs.length 0 e - xs.length))
    (by
      rw [<- hnl,kM];exact zO)
    (by
      simp only [vN,dX,size_zeroCells,hnl,h7,<- dB];congr 1;omega)
  exact⟨_,_,g',run_append_nil (P:=P) w t ty e ti zv h1 h2 h3 ⟨bx,offx,none⟩ xs.length capx _ hnl hnews hxlen (by omega) (by omega),b1,(Fr.drew w g).trans b2,b3⟩
theorem Tt (t t2 : TypeId) (s x : Operand) (hd : eF o st) (ho : o.op = .call { callee := .builtin .append, args := #[s, x], argTypes := #[t, t2] }) (h : tK P o.dst t t2 s x st K) : Does P o st K := by
  unfold tK at h;split at h
  . rename_i e k by_ z d es ow xs he hdst hs hx
    obtain⟨ti,zv,h1,h2,h3,h4,h5,h6,h7,h8⟩:=jI he;obtain⟨⟨e2,ht2⟩,⟨hb,hm⟩,hes,hxs,h⟩:=h;have hrun:∀(tmps:Array Value) (w w':World) (v:Value),(Builtin.append_ #[t,t] o.type #[ev tmps s,ev tmps x]).run P w= .ok v w'->(execOp (ev tmps) o).run P w= .ok (.value v) w':=by
      intro tmps w w' v hr;rw [<- vT (ty:=o.type) h1 ht2] at hr;simp [execOp,ho,resolve,invoke,builtin,hr]
    split at h
    . rename_i ts
      obtain⟨hne,hK⟩:=h;have hs':st.env ts= .d (.sl true es):=by
        cases he':st.env ts with
        | lref n off=>simp [St.rd,St.rdS,he'] at hs
        | d y=>simp [St.rd,St.rdS,he'] at hs;rw [hs]
      refine cH hd fun w g tmps hok=>?_;obtain⟨v,w',g',r1,r2,r3,r4⟩:=Im hok h1 h2 h3 h5 h6 (by rw [h4];exact h7) h8 (z:=z) ts d hne ow es xs hs' (ev tmps x) (by have:=hok.rd x;rwa [hx] at this) hb hm hes hxs o.type;exact⟨v,w',g',_,.inl (hrun tmps w w' v r1),hK,r3,by rw [hdst];exact r4,rfl,by rw [r2];simp⟩
    . have hes0 : es = [] := by
        simp only [St.rd,St.rdS,D.ofV,D.ofV1,D.sl.injEq] at hs;exact hs.2.symm
      subst hes0;simp only [aO,cY,eL] at h hb hm;refine cH hd fun w g tmps hok=>?_;obtain⟨v,w',g',r1,r2,r3,r4⟩:=Ir hok h1 h2 h3 h5 h6 (by rw [h4];exact h7) h8 d ow xs (ev tmps x) (by have:=hok.rd x;rwa [hx] at this) hb hm hxs o.type;exact⟨v,w',g',_,.inl (hrun tmps w w' v r1),h,r3,by rw [hdst];exact r4,rfl,by rw [r2];simp⟩
    exact h.elim
  exact h.elim
def oD (a : Bool) (h : Holder) (off n d : Nat) : mV -> mV := fun t =>
  if t.1=h then(match t.2 with
    | i::q=>if a then(if off<=i/\i<off+n then(.slot d,(i - off)::q)else t)else(if i=off then(.slot d,q)else t)
    | []=>t)else t
def lW (P : Program) (c : Cfg) (dst : Option Tmp) (t : TypeId) (x : Operand) (st : St) (K : St -> Prop) : Prop :=
  match kJ P t,dst with
  | some (a, n), some d =>
    if c.take.contains d then
      match st.rdS x with
      | .lref m off => match st.loc[m]? with
        | some cs => match Ae a n (cs.drop off) with
          | some y=>((a=false->n=1)/\0<n)/\off+n<=cs.length/\K (({ st with loc:=st.loc.set m (dZ cs off y.s2.cells) } :St).set d (.d y))
          | none=>False
        | none=>False
      | .d (.ref m off) => match st.obj[m]? with
        | some cs => match Ae a n (cs.drop off) with
          | some y=>((a=false->n=1)/\0<n)/\off+n<=cs.length/\K (({ st with obj:=st.obj.set m (dZ cs off y.s2.cells) } :St).set d (.d y))
          | none=>False
        | none=>False
      | _=>jY P dst t x st K
    else jY P dst t x st K
  | _,_=>jY P dst t x st K
theorem aCu {hd : Holder} {b : Nat} {cs : List D} {a : Bool} {n off : Nat} {y : D} (hbx : BoxOk w g hd b cs) (ht : kJ P t = some (a, n)) (hld : Ae a n (cs.drop off) = some y) (hn1 : a = false -> n = 1) (hpos : 0 < n) (hfit : off + n <= cs.length) (d : Nat) (hhd : ∀ t, hd ≠ .slot t) :
    ∃v,(loadVar t ⟨b,off,none⟩).run P w= .ok v w/\R g.M g.bs y v/\Own w g.M g.bs (gT (oD a hd off n d) g.X) (.slot d) [] y v/\BoxOk w { g with X:=gT (oD a hd off n d) g.X } hd b (dZ cs off y.s2.cells):=by
  obtain⟨v,hrun,hr⟩:=xO (P:=P) (Gs hbx off) ht hld;have hnt:=uB (Gs hbx off) hld;obtain⟨cur,E,h1,h2,h3,h4,h5⟩:=hbx.resolve_left (by intro e;rw [e] at hfit;simp at hfit;omega);have hb2:BoxOk w g hd b cs:= .inr ⟨cur,E,h1,h2,h3,h4,h5⟩;obtain⟨td,ti,i1,i2,i3,i4⟩:=rH ht
  -- the value is the cells
  have hv : ∀ (i : Nat) (c : Value), v.cells[i]? = some c -> i < n /\ cur[off + i]? = some c := by
    intro i c hi;cases a with
    | true =>
      simp only [Ae,aU] at hld;split at hld
      . have e1 : ∀ (j : Nat) (x : Value), ((cur.toList.drop off).take n)[j]? = some x -> w.cell? ((⟨b, off, none⟩ : Addr).add j) = some x := by
          intro j x hj;rw [Addr.add_none,cell_of_row w b (off+j) cur E (0,0) h1];rw [eN] at hj;split at hj
          . rw [mL,dM] at hj;exact hj
          cases hj
        have hlen:((cur.toList.drop off).take n).length=n:=by
          rw [bG,dI,cG,h2];omega
        have hl:=run_loadCells_list (P:=P) w ⟨b,off,none⟩ ((cur.toList.drop off).take n) e1;rw [hlen] at hl;have:(loadVar t ⟨b,off,none⟩).run P w= .ok (.agg ((cur.toList.drop off).take n).toArray) w:=by simp [loadVar,oZ i1,i3,cD i2,i4,hl]
        rw [this] at hrun;simp only [Result.ok.injEq,oR] at hrun;subst hrun;simp only [Value.cells] at hi;rw [fZ,eN] at hi;split at hi
        . rename_i hin
          rw [mL,dM] at hi;exact⟨hin,hi⟩
        cases hi
      cases hld
    | false =>
      have hn:=hn1 rfl;subst hn;have hlt:off<cur.size:=by omega
      have:(loadVar t ⟨b,off,none⟩).run P w= .ok cur[off] w:=by
        simp only [loadVar,Sem.run_bind,oZ i1,i3,Result.andThen_ok,gO,bK];exact wX (by rw [cell_of_row w b off cur E (0,0) h1];exact bR hlt)
      rw [this] at hrun;simp only [Result.ok.injEq,oR] at hrun;subst hrun;have hone:cur[off].oneCell'=true:=by
        have hc:off<cs.length:=by omega
        exact(h5 off _ _ (aS hc) (bR hlt)).2.2
      rw [Value.cells_one hone] at hi
      match i with
      | 0=>simp at hi;subst hi;exact⟨by omega,bR hlt⟩
      | i+1=>simp at hi
  have hyc:∀(i:Nat) (e:D),y.cells[i]?=some e->i<n/\cs[off+i]?=some e:=by
    intro i e hi;cases a with
    | true =>
      simp only [Ae,aU] at hld;split at hld
      . simp only [bF] at hld
        subst hld;simp only [D.cells] at hi;rw [eN] at hi;split at hi
        . rename_i hin;rw [mL] at hi;exact⟨hin,hi⟩
        cases hi
      cases hld
    | false =>
      have hn:=hn1 rfl;subst hn;simp only [Ae,gO,bK,qD] at hld;have hna:∀ds,y≠ .agg ds:=by
        intro ds e;subst e;have hlt:off<cur.size:=by rw [h2];exact(aP.1 hld).1
        have hc:=h5 off _ _ hld (bR hlt);exact(hc.1.one hc.2.2).1 _ rfl
      have hc1:y.cells= [y]:=by cases y <;> first | rfl | exact absurd rfl (hna _)
      rw [hc1] at hi
      match i with
      | 0=>simp at hi;subst hi;exact⟨by omega,hld⟩
      | i+1=>simp at hi
  have hylen:y.cells.length=n:=by
    cases a with
    | true =>
      simp only [Ae,aU] at hld;split at hld
      . simp only [bF] at hld
        subst hld;simp only [D.cells,bG,dI];omega
      cases hld
    | false =>
      have hn:=hn1 rfl;subst hn;simp only [Ae,gO,bK,qD] at hld;have hna:∀ds,y≠ .agg ds:=by
        intro ds e;subst e;have hlt:off<cur.size:=by rw [h2];exact(aP.1 hld).1
        have hc:=h5 off _ _ hld (bR hlt);exact(hc.1.one hc.2.2).1 _ rfl
      cases y <;> first | rfl | exact absurd rfl (hna _)
  refine⟨v,hrun,hr,?_,?_⟩
  . cases a with
    | true =>
      simp only [Ae,aU] at hld;split at hld
      . simp only [bF] at hld
        cases hr with
        | agg ds vs hl hrr h1' =>
          refine .agg _ ds vs fun i e c a1 a2=>?_;obtain⟨hin,hcs⟩:=hyc i e a1;obtain⟨_,hcu⟩:=hv i c (by simpa [Value.cells] using a2);refine(h5 _ e c hcs hcu).2.1.move (fun _ _ _ h=>h) (fun _ _ h=>h) _ fun b' q hb=>⟨rfl,fun _ h=>h,?_⟩;simp only [aO,aQ] at hb |-;simp [gT,hb,oD,hin]
        | any=>simp at hld
        | v=>simp at hld
        | nil=>simp at hld
        | emp=>simp at hld
        | sl=>simp at hld
        | tup=>simp at hld
        | adr=>simp at hld
        | ref=>simp at hld
        | clo=>simp at hld
        | xs=>simp at hld
        | xl=>simp at hld
        | slo=>simp at hld
        | mref=>simp at hld
        | mp=>simp at hld
        | mit=>simp at hld
        | mo=>simp at hld
        | mz=>simp at hld
        | ifc=>simp at hld
      cases hld
    | false =>
      have hn:=hn1 rfl;subst hn;simp only [Ae,gO,bK,qD] at hld;have hlt:off<cur.size:=by rw [h2];exact(aP.1 hld).1
      have hc := h5 off _ _ hld (bR hlt);have hvv : v = cur[off] := by
        have:=(hv 0 v (by
          have hone:v.oneCell'=true:=by
            have:(loadVar t ⟨b,off,none⟩).run P w= .ok cur[off] w:=by
              simp only [loadVar,Sem.run_bind,oZ i1,i3,Result.andThen_ok,gO,bK];exact wX (by rw [cell_of_row w b off cur E (0,0) h1];exact bR hlt)
            rw [this] at hrun;simp only [Result.ok.injEq,oR] at hrun;rw [<- hrun];exact hc.2.2
          rw [Value.cells_one hone];rfl)).2
        rw [kK,bR hlt] at this;simpa using this.symm
      rw [hvv];refine hc.2.1.move (fun _ _ _ h=>h) (fun _ _ h=>h) _ fun b' q hb=>⟨rfl,fun _ h=>h,?_⟩;simp only [aO,aQ] at hb |-;simp [gT,hb,oD]
  refine .inr ⟨cur,E,h1,?_,?_,h4,fun i e c a1 a2=>?_⟩
  . unfold dZ
    rw [iS (by rw [<- mK,uM,mK,hylen];exact hfit),h2]
  . simp [gT,h3,oD]
  have hs2:y.s2.cells.length=n:=by rw [<- mK,uM,mK,hylen]
  unfold dZ at a1;rw [fH (by rw [hs2];exact hfit),hs2] at a1;have old:(i<off\/¬i<off+n)->cs[i]?=some e->R g.M g.bs e c/\Own w g.M g.bs (gT (oD a hd off n d) g.X) hd [i] e c/\c.oneCell'=true:=by
    intro ho hi;obtain⟨b1,b2,b3⟩:=h5 i e c hi a2;refine⟨b1,b2.move (fun _ _ _ h=>h) (fun _ _ h=>h) _ fun b' q hb=>⟨rfl,fun _ h=>h,?_⟩,b3⟩;simp only [aQ,aO] at hb |-;cases a with
    | true =>
      have:¬(off<=i/\i<off+n):=by omega
      simp [gT,hb,oD,this]
    | false =>
      have hn:=hn1 rfl;have:¬i=off:=by omega
      simp [gT,hb,oD,this]
  by_cases c1:i<off
  . simp only [c1, aU] at a1
    exact old (.inl c1) a1
  simp only [c1,bK] at a1;by_cases c2:i<off+n
  . simp only [c2, aU] at a1
    -- given up
    have hl:i - off<y.cells.length:=by omega
    obtain⟨_,hcs⟩:=hyc (i - off) _ (aS hl);rw [show off+(i - off)=i by omega] at hcs;obtain⟨b1,b2,b3⟩:=h5 i _ c hcs a2;have he:e=D.s1 y.cells[i - off]:=by
      cases y with
      | agg ds=>simp only [D.s2,D.cells,cF] at a1 |-;rw [aS (by simpa [D.cells] using hl)] at a1;simp only [gJ,bF] at a1;exact a1.symm
      | tup ds=>exact absurd rfl (hnt _)
      | _ =>
        rw [D.s2_of (by intro cs h;cases h)] at a1;have h0:i - off=0:=by simp [D.cells] at hl;omega
        simp [D.s1,D.cells,h0] at a1 |-;exact a1.symm
    subst he;exact⟨b1.s1,Rd b1 b3,b3⟩
  simp only [c2,bK] at a1;exact old (.inr c2) a1
theorem Mq (c : Cfg) (t : TypeId) (x : Operand) (hd : eF o st) (ho : o.op = .load t x) (h : lW P c o.dst t x st K) : Does P o st K := by
  have plain:jY P o.dst t x st K->Does P o st K:=fun h=>aDv t x hd ho h;unfold lW at h;split at h
  . rename_i a n d ht hdst
    split at h
    . split at h
      . rename_i m off hx
        split at h
        . rename_i cs hcs
          split at h
          . rename_i y hld
            obtain⟨⟨hn1,hpos⟩,hfit,hK⟩:=h;refine cH hd fun w g tmps hok=>?_;obtain⟨b,hb,hv⟩:=hok.rdL hx;obtain⟨v,hrun,hr,hown,hbox⟩:=aCu (hok.loc m b cs hb hcs) ht hld hn1 hpos hfit d (by simp);have hml:m<st.loc.length:=(aP.1 hcs).1;have k1:=hok.parkLoc m (dZ cs off y.s2.cells) (oD a (.loc m) off n d) (fun t ht=>by simp [oD,ht]) hml (fun b' cs' h1 h2 h3=>by
              rw [hb] at h1;rw [hcs] at h2;simp at h1 h2;subst h1;subst h2;exact hbox)
            refine⟨v,w, { g with X:=gT (oD a (.loc m) off n d) g.X },_,.inl ?_,hK,Fr.ren w g (oD a (.loc m) off n d),?_,rfl,by simp⟩
            . simp [execOp,ho,Instr.loadAt,hv,Instr.sureAddr,hrun]
            rw [hdst];exact k1.set d _ _ ⟨hr,hown⟩
          exact h.elim
        exact h.elim
      . rename_i m off hx
        split at h
        . rename_i cs hcs
          split at h
          . rename_i y hld
            obtain⟨⟨hn1,hpos⟩,hfit,hK⟩:=h;refine cH hd fun w g tmps hok=>?_;have hra:=hok.rd x;simp only [St.rd,hx] at hra;generalize hv:ev tmps x=va at hra;cases hra with
            | ref _ _ b hb =>
              obtain⟨v,hrun,hr,hown,hbox⟩:=aCu (hok.obj m b cs hb hcs) ht hld hn1 hpos hfit d (by simp);have hml:m<st.obj.length:=(aP.1 hcs).1;have k1:=hok.parkObj m (dZ cs off y.s2.cells) (oD a (.obj m) off n d) (fun t ht=>by simp [oD,ht]) hml (fun b' cs' h1 h2 h3=>by
                rw [hb] at h1;rw [hcs] at h2;simp at h1 h2;subst h1;subst h2;exact hbox)
              refine⟨v,w, { g with X:=gT (oD a (.obj m) off n d) g.X },_,.inl ?_,hK,Fr.ren w g (oD a (.obj m) off n d),?_,rfl,by simp⟩
              . simp [execOp,ho,Instr.loadAt,hv,Instr.sureAddr,hrun]
              rw [hdst];exact k1.set d _ _ ⟨hr,hown⟩
          exact h.elim
        exact h.elim
      exact plain h
    exact plain h
  exact plain h
end
section
variable {P:Program}
def nJ(xs:List Operand)(st:St):Prop:=∀x∈xs,(st.rd x).plain=true
def aN9(v:Value):D:=match v with
  | .slice none 0 0=> .v (.slice none 0 0)
  | v=>(D.ofV v).strip
def Du(st:St):Operand->D
  | .const v=>aN9 v
  | x=>(st.rd x).strip
theorem sW (hok:Ok w g st (cJ tmps))(x:Operand)(hp:(st.rd x).plain=true):R g.M g.bs (Du st x) (ev tmps x)/\∀X h p,Own w g.M g.bs X h p (Du st x) (ev tmps x):=by
  cases x with
  | const v =>
    show R g.M g.bs (aN9 v) v/\∀X h p,Own w g.M g.bs X h p (aN9 v) v
    unfold aN9;split
    . exact⟨.v _ rfl,fun X h p=> .flat _ _ _ rfl⟩
    exact⟨(hok.rd (.const v)).strip,fun X h p=>nM (hok.rd (.const v)) (nH hp)⟩
  | tmp u=>exact⟨(hok.rd (.tmp u)).strip,fun X h p=>nM (hok.rd (.tmp u)) (nH hp)⟩
  | global u=>exact⟨(hok.rd (.global u)).strip,fun X h p=>nM (hok.rd (.global u)) (nH hp)⟩
  | func u=>exact⟨(hok.rd (.func u)).strip,fun X h p=>nM (hok.rd (.func u)) (nH hp)⟩
theorem mX {st':St} {x:Operand} (h:st'.rd x=st.rd x):Du st' x=Du st x:=by
  cases x <;> simp only [Du,h]
def iK(xs:List Operand)(st:St):List D:=xs.map (Du st)
def mQ(P:Program)(dst:Option Tmp)(f:Operand)(args:List Operand)(st:St)(K:St->Prop):Prop:=
  match st.rd f with
  | .clo (.func f) first caps=>(∀d∈first++caps,d.plain=true)/\nJ args st/\
      Ct P f (first.map D.strip++iK args st++caps.map D.strip) st.obj (fun r σ'=>K (({ st with obj:=σ' } :St).put dst (.d r)))
  | _=>False
def cO:Operand->Option Nat
  | .tmp s=>some s
  | _=>none
def wS(st:St):Operand->D
  | .tmp t=>st.rd (.tmp t)
  | x=>Du st x
theorem As {st':St} {x:Operand} (h:st'.rd x=st.rd x):wS st' x=wS st x:=by
  cases x <;> simp only [wS,h,Du]
def pU (P : Program) (dst : Option Tmp) (f : FuncId) (args : List Operand) (st : St) (K : St -> Prop) : Prop :=
  (args.filterMap cO).Nodup/\(∀x∈args,Ap (st.rdS x)=true/\(st.rd x).plain=true)/\
    Ct P f (args.map (wS st)) st.obj (fun r σ'=>K (({ st with env:=gS (args.map cO) st.env,obj:=σ' } :St).put dst (.d r)))
theorem Cv {f:FuncId} {args:Array Value} (h:Ef P f=true):(callFunc f args).run P w= .ok (.enter f args) w:=by
  unfold Ef at h;cases hf:P.funcs[f]? with
  | none=>simp [hf] at h
  | some fn =>
    simp only [hf,gP,bne_iff_ne,ne_eq] at h;have h2:fn.body.isNone=false:=by
      cases hb:fn.body with
      | none=>simp [hb] at h
      | some b=>rfl
    have h1 : ¬ fn.name = "runtime.NumGoroutine" := h.1;have h3 : ¬ fn.body = none := by intro e; simp [e] at h2
    simp [callFunc,hf,h1,h3]
theorem Jl (hd:eF o st)(f:FuncId)(ds:List D)(ts:List (Option Nat))(σ:List (List D))(hσ:σ=st.obj)
    (hfn:Ct P f ds σ (fun r σ'=>K (({ st with env:=gS ts st.env,obj:=σ' } :St).put o.dst (.d r)))) (hnt:∀t,some t∈ts->Ap (st.env t)=true)
    (h:∀(w:World) (g:Gh) (tmps:Array Value),Ok w g st (cJ tmps)->∃vs:Array Value,(execOp (ev tmps) o).run P w= .ok (.enter f vs) w/\vs.size=ds.length/\
      ∀(p:Nat) (d:D) (v:Value),ds[p]?=some d->vs[p]?=some v->R g.M g.bs d v/\((∀X h p,Own w g.M g.bs X h p d v)\/∃t,ts[p]?=some (some t)/\ts.findIdx? (· ==some t)=some p/\st.env t= .d d/\cJ tmps t=v)):Does P o st K:=by
  subst hσ;intro w g tmps hok hn;obtain⟨vs,hrun,hsz,ha⟩:=h w g tmps hok;have hen:=hok.enter ds vs ts hsz ha;unfold Oper.wp;rw [hrun,Oper.upon_enter];refine(hfn.2 w _ vs hsz rfl hen).mono ?_;rintro e w' ⟨r,σ',x,gr,rfl,hK,hbl,hf,hk⟩;obtain⟨g',g1,g2,g3⟩:=hok.leave ts o.dst r x σ' hf hk hnt;have hdst:∀d,o.dst=some d->d<tmps.size:=by
    intro d hd';have hd2:d<st.n:=by simpa [eF,hd'] using hd
    rw [hn];exact hd2
  refine⟨by simp [sV],_,g',hK,g2,?_,?_,by rw [g1];simp⟩
  . rw [Cf tmps [] o.dst x hdst];exact g3
  rw [xP,Vv];exact hn
theorem Qr(n:Nat)(env:Nat->Slot):gS (List.replicate n none) env=env:=by
  funext t;have:(List.replicate n (none:Option Nat)).contains (some t)=false:=by
    rw [qL];intro h;rw [List.contains_iff_mem] at h;have:=qO h;cases this
  simp [gS,this]
theorem nT (f : Operand) (args : Array Operand) (ats : Array TypeId) (hd : eF o st) (ho : o.op = .call { callee := .value f, args, argTypes := ats }) (h : mQ P o.dst f args.toList st K) : Does P o st K := by
  unfold mQ at h;split at h
  . rename_i fid first caps hf
    obtain⟨hp,ha,hfn⟩:=h;refine Jl hd fid (first.map D.strip++iK args.toList st++caps.map D.strip) (List.replicate (first.length+args.toList.length+caps.length) none) st.obj rfl ?_ (fun t ht=>by have:=qO ht;cases this) fun w g tmps hok=>?_
    . rw [Qr];exact hfn
    have hr:=hok.rd f;rw [hf] at hr;generalize hv:ev tmps f=v at hr;cases hr with
    | clo _ _ _ v1 v2 l1 l2 h1 h2 =>
      refine⟨v1++args.map (ev tmps)++v2,?_,?_,fun p d v a1 a2=>?_⟩
      . simp [execOp,ho,resolve,hv,Deferred.ofValue,invoke,Cv hfn.1]
      . simp [iK,l1,l2]
      have strip:∀(y:D),y.plain=true->R g.M g.bs y v->d=y.strip->R g.M g.bs d v/\∀X h p,Own w g.M g.bs X h p d v:=by
        rintro y hy hr rfl;exact⟨hr.strip,fun X h p=>nM hr (nH hy)⟩
      suffices hs:R g.M g.bs d v/\∀X h p,Own w g.M g.bs X h p d v from⟨hs.1,.inl hs.2⟩
      rw [bW] at a1;rw [Array.append_assoc] at a2;by_cases c1:p<first.length
      . rw [bC (by simpa using c1), cF, dG] at a1
        obtain⟨y,hy,rfl⟩:=a1;rw [zW (by omega)] at a2;exact strip y (hp y (gE _ (bE hy))) (h1 p y v hy a2) rfl
      rw [bX (by simp;omega),bQ] at a1;rw [Pn (by omega),l1] at a2;by_cases c2:p - first.length<args.toList.length
      . rw [bC (by simpa [iK] using c2)] at a1
        rw [zW (by simpa using c2)] at a2;unfold iK at a1;rw [cF,dG] at a1;obtain⟨x,hx,rfl⟩:=a1;rw [Gz,dG] at a2;obtain⟨x',hx',rfl⟩:=a2;rw [dM] at hx;rw [hx] at hx';simp at hx';subst hx';exact sW hok x (ha x (bE (by rw [dM];exact hx)))
      rw [bX (by simpa [iK] using c2)] at a1;rw [Pn (by simpa using c2)] at a2;rw [cF,dG] at a1;obtain⟨y,hy,rfl⟩:=a1;simp only [iK,bQ,Array.size_map,cG] at hy a2;exact strip y (hp y (pA _ (bE hy))) (h2 _ y v hy a2) rfl
  exact h.elim
theorem Am : ∀ (xs : List Operand) (p : Nat) (t : Nat), (xs.filterMap cO).Nodup -> (xs.map cO)[p]? = some (some t) -> (xs.map cO).findIdx? (· == some t) = some p
  | [],p,t,_,h=>by simp at h
  | x :: xs, p, t, hn, h => by
    match p with
    | 0 =>
      simp only [cC,Aa,bF] at h;simp [zP,h]
    | p + 1 =>
      have h':(xs.map cO)[p]?=some (some t):=by simpa using h
      have hne:cO x≠some t:=by
        intro e;have hmem:t∈xs.filterMap cO:=by
          rw [oU];rw [cF,dG] at h';obtain⟨y,hy,hy'⟩:=h';exact⟨y,bE hy,hy'⟩
        simp only [uS,e,gY] at hn;exact hn.1 hmem
      have hn':(xs.filterMap cO).Nodup:=by
        simp only [uS] at hn;split at hn
        . exact hn
        exact(gY.1 hn).2
      have ih:=Am xs p t hn' h';simp [zP,hne,ih]
theorem Bi (f:FuncId)(args:Array Operand)(ats:Array TypeId)(hd:eF o st)(ho:o.op= .call { callee:= .value (.func f),args,argTypes:=ats })(h:pU P o.dst f args.toList st K):Does P o st K:=by
  obtain⟨hnd,hx,hfn⟩:=h;refine Jl hd f (args.toList.map (wS st)) (args.toList.map cO) st.obj rfl hfn (fun t ht=>?_) fun w g tmps hok=>?_
  . obtain ⟨x, hx', e⟩ := aV.1 ht
    cases x <;> simp [cO] at e;subst e;exact(hx _ hx').1
  refine⟨args.map (ev tmps),?_,by simp,fun p d v a1 a2=>?_⟩
  . have hfe : ∀ (t : Array Value), (⟨t, []⟩ : Act).eval (.func f) = .func (.func f) #[] #[] := fun _ => rfl
    simp [execOp,ho,resolve,hfe,Deferred.ofValue,invoke,Cv hfn.1]
  rw [cF,dG] at a1;obtain⟨x,h1,rfl⟩:=a1;rw [Gz,dG] at a2;obtain⟨x',h2,rfl⟩:=a2;rw [dM] at h1;rw [h1] at h2;simp at h2;subst h2;have hmem:x∈args.toList:=bE (by rw [dM];exact h1);have hp:=(hx x hmem).2;cases x with
  | tmp s =>
    cases he:st.env s with
    | lref n off =>
      have e:st.rd (.tmp s)= .any:=by simp [St.rd,St.rdS,he]
      simp only [wS,e];exact⟨.any _,.inl fun X h p=> .flat _ _ _ rfl⟩
    | d y =>
      have e:st.rd (.tmp s)=y:=by simp [St.rd,St.rdS,he]
      have hpos:(args.toList.map cO)[p]?=some (some s):=by rw [cF,dM,h1];rfl
      refine⟨hok.rd (.tmp s),.inr ⟨s,hpos,Am _ p s hnd hpos,by show st.env s= .d (st.rd (.tmp s));rw [e];exact he,rfl⟩⟩
  | const u=>exact⟨(sW hok (.const u) hp).1,.inl (sW hok (.const u) hp).2⟩
  | func u=>exact⟨(sW hok (.func u) hp).1,.inl (sW hok (.func u) hp).2⟩
  | global u=>exact⟨(sW hok (.global u) hp).1,.inl (sW hok (.global u) hp).2⟩
end
section
variable {P:Program}
theorem eH(d:D):d.cells.length=d.ncells:=by cases d <;> rfl
theorem Ok.freshX (h:Ok w g st val)(d:Nat)(E:TypeId)(k cap:Nat)(es:List D)(cells:Array Value)(hk:0<k)(hc:es.length<=cap)(hm:cap<=maxLen)(hsize:cells.size=cap * k)
    (h1:∀(o:Nat) (c:Value),cells[o]?=some c->c.oneCell'=true) (hs:∀(i:Nat) (d:D),es[i]?=some d->d.ncells=k/\d.arr=true)
    (hr:∀(i:Nat) (d:D) (j:Nat) (e:D),es[i]?=some d->d.cells[j]?=some e->∃x,cells[i * k+j]?=some x/\R g.M g.bs e x):
    ∃g',g'.bl=g.bl/\Fr w g (w.alloc (.cells cells E)) g'/\Ok (w.alloc (.cells cells E)) g' (st.set d (.d (.xs k es))) (fun u=>if u=d then .slice (some ⟨w.heap.size,0,none⟩) es.length cap else val u):=by
  obtain⟨q1,q2⟩:=h.known cells #[] E (some (.slot d, [])) (fun o c h=>by simp at h);refine⟨{ g with M:=g.M.add w.heap.size #[],X:=fun b=>if b=w.heap.size then some (.slot d, [])else g.X b },rfl,q2,q1.set d _ _ ⟨.xs k es _ _ cap rfl hc hm (by simp),.xs _ _ _ _ (.inr ⟨w.heap.size,es.length,cap,cells,E,rfl,by simp,vC w _,hk,hsize,rfl,hc,hm,fun o=>by simp [Mem.add],h1,hs,fun i d j e a1 a2=>?_⟩)⟩⟩;obtain⟨x,x1,x2⟩:=hr i d j e a1 a2;exact⟨x,x1,x2.mono q2.mono (fun _ _ h=>h)⟩
theorem Ok.forget2 {ts d:Nat} {A B:Slot} (h:Ok w g ((st.set ts A).set d B) val)(hne:ts≠d):Ok w g ((st.set ts .any).set d B) val:=by
  have:=h.forget ts;have e:(((st.set ts A).set d B).set ts .any)=(st.set ts .any).set d B:=by
    simp only [St.set];congr 1;funext u;by_cases h1:u=d
    . subst h1;simp [Ne.symm hne]
    by_cases h2:u=ts
    . subst h2;simp [hne]
    simp [h1,h2]
  rwa [e] at this
theorem mN {z:Array Value} {n:Nat} {c:Value} (h:c∈(Builtin.zeroCells z n).toList)(hz:0<z.size):c∈z.toList:=by
  simp only [Builtin.zeroCells,Array.toList_map,aV] at h;obtain⟨i,_,rfl⟩:=h;have:i % z.size<z.size:=Nat.mod_lt _ hz;simp [this]
def wP(k:Nat)(es:List D)(x:D):Prop:=x= .xs k es\/(x= .sl true []/\es= [])\/(x= .v (.slice none 0 0)/\es= [])
theorem Kb {ts:Nat} {es : List D} {x : D} {v : Value} (hb : wP k es x) (h : SlotOk w g ts (.d x) v) : Zx w g.M g.bs g.X (.slot ts, []) k es v /\ (∀ cs, x ≠ .tup cs) /\ ∃ a n cap, v = .slice a n cap /\ n = es.length /\ (a = none -> n = 0 /\ cap = 0) := by
  obtain⟨hr,ho⟩:=h;rcases hb with rfl | ⟨rfl,rfl⟩ | ⟨rfl,rfl⟩
  . refine ⟨?_, by simp, ?_⟩
    . cases ho with
      | xs p k es v ho=>exact ho
      | flat p d v hf=>simp [D.flat] at hf
    cases hr with
    | xs k es a n cap hn hc hm ha=>exact⟨a,n,cap,rfl,hn,ha⟩
  . have hO : aB6 w g.M g.X (.slot ts, []) [] v := by
      cases ho with
      | sl p es v ho=>exact ho
      | flat p d v hf=>simp [D.flat] at hf
    have h0:∃a,v= .slice a 0 0:=by
      rcases hO with ⟨a,n,rfl⟩ | ⟨b,n,cap,k',cur,E,_,hc,_⟩
      . cases hr with
        | nil=>exact⟨_,rfl⟩
        | emp o a' cap hm'=>exact⟨_,rfl⟩
        | sl o' es' b off n' cap k vs hl hn hk hc => have hn0 : n = 0 := by simpa using hn
                                                     subst hn0;exact⟨_,rfl⟩
      exact absurd rfl hc
    obtain⟨a,rfl⟩:=h0;exact⟨.inl ⟨rfl,a,rfl⟩,by simp,a,0,0,rfl,rfl,fun _=>⟨rfl,rfl⟩⟩
  have hv:=hr.vEq;exact⟨.inl ⟨rfl,none,hv⟩,by simp,none,0,0,hv,rfl,fun _=>⟨rfl,rfl⟩⟩
def aBg(w:World)(g:Gh)(k:Nat)(xs:List D)(vx:Value):Prop:=
  (xs = [] -> ∃ a c, vx = .slice a 0 c) /\ (xs ≠ [] -> ∃ (b off cap : Nat) (vs : List Value), vx = .slice (some ⟨b, off, none⟩) xs.length cap /\ vs.length = xs.length /\ (∀ (i : Nat) (d : D) (x : Value), xs[i]? = some d -> vs[i]? = some x -> R g.M g.bs d x) /\
      (∀x:Value,x∈vs->x.cells.size=k/\∀c:Value,c∈x.cells.toList->c.oneCell'=true)/\(∀(j:Nat) (c:Value),(vs.flatMap fun v=>v.cells.toList)[j]?=some c->w.cell? ((⟨b,off,none⟩:Addr).add j)=some c))
theorem Cq (hok:Ok w g st val) {o:Bool} {xs:List D} {vx:Value} (hvx:R g.M g.bs (.sl o xs) vx)(hxs:∀d∈xs,d.ncells=k):aBg w g k xs vx:=by
  refine⟨fun h=>?_,fun h=>?_⟩
  . subst h
    cases hvx with
    | nil=>exact⟨_,_,rfl⟩
    | emp o a cap hm=>exact⟨_,_,rfl⟩
    | sl o' es b off n cap k vs hl hn=>subst hn;exact⟨_,_,rfl⟩
  obtain⟨bx,offx,capx,vvx,rfl,l1,l2,l3,l4,l5,l6,l7⟩:=Dv hok hvx hxs h;exact⟨bx,offx,capx,vvx,rfl,l1,l5,l6,fun j c hj=>(l7 j c hj).1⟩
theorem jO (hok : Ok w g st (cJ tmps)) {by_:Nat} {zv : Value} (h1 : P.underlying t = some (.slice e)) (h2 : P.info? e = some ti) (h3 : ti.zero = some zv) (h5 : ti.size = k) (h6 : ti.bytes = by_) (h7 : zv.cells.size = k) (h8 : 0 < k) (hz : ∀ c ∈ zv.cells.toList, c.oneCell' = true)
    (ts d:Nat) (hne:ts≠d) (es xs:List D) (x0:D) (hs:st.env ts= .d x0) (hbase:wP k es x0) (vx:Value) (hvx:aBg w g k xs vx) (hb:(es.length+xs.length) * by_<=140737488355328) (hm:es.length+xs.length<=maxLen) (hxs:∀d∈xs,d.ncells=k/\d.arr=true) (ty:TypeId):
    ∃v w' g',(Builtin.append_ #[t,t] ty #[cJ tmps ts,vx]).run P w= .ok v w'/\g'.bl=g.bl/\Fr w g w' g'/\Ok w' g' ((st.set ts .any).set d (.d (.xs k (es++xs)))) (fun u=>if u=d then v else cJ tmps u):=by
  have hsl:=hok.slot ts;rw [hs] at hsl;obtain⟨hO,hnt,a0,n0,cap0,hv0,hn0,hnil⟩:=Kb hbase hsl;generalize hv:cJ tmps ts=vs at hO hv0;subst h5;subst h6;by_cases hx0:xs= []
  . subst hx0
    have hfc:∀(a:Option Addr) (c:Nat) w,(Builtin.firstCells ti.size 0 (.slice a 0 c)).run P w= .ok #[] w:=by
      intro a c w;cases a with
      | none=>simp [Builtin.firstCells]
      | some a=>simp [Builtin.firstCells,loadCells,loadCellsFrom]
    obtain⟨a,c,rfl⟩:=hvx.1 rfl;have hrun:n0<=cap0->(Builtin.append_ #[t,t] ty #[.slice a0 n0 cap0,.slice a 0 c]).run P w= .ok (.slice a0 n0 cap0) w:=by
      intro hc;cases a0 with
      | none=>obtain⟨rfl,rfl⟩:=hnil rfl;simp [Builtin.append_,run_underlying h1,cD h2,Builtin.lenOf,hfc]
      | some a0=>simp [Builtin.append_,run_underlying h1,cD h2,Builtin.lenOf,hfc,hc,storeCells]
    rw [gH];rcases hO with ⟨rfl,a1,e1⟩ | ⟨b,n,cap,cur,E,e1,o1,o2,o3,o4,o5,o6,o7,o8,o9,o10,o11⟩
    . rw [hv0] at e1
      simp only [Value.slice.injEq] at e1;obtain⟨rfl,rfl,rfl⟩:=e1;subst hv0;refine⟨_,w,g,hrun (aW _),rfl,Fr.refl w g,?_⟩;exact(hok.forget ts).set d _ _ ⟨.xs _ [] a0 0 0 rfl (aW _) (iM _) (fun _=>⟨rfl,rfl⟩),.xs _ _ _ _ (.inl ⟨rfl,a0,rfl⟩)⟩
    rw [hv0] at e1;simp only [Value.slice.injEq] at e1;obtain⟨rfl,rfl,rfl⟩:=e1;subst hv0;refine⟨_,w, { g with X:=gT (kZ (.slot ts) [] (.slot d) []) g.X },hrun o6,rfl,Fr.ren w g (kZ (.slot ts) [] (.slot d) []),?_⟩;obtain⟨p1,_,_⟩:=hok.park ts _ hs hnt (kZ (.slot ts) [] (.slot d) []) (fun t ht=>rA ht);have p2:=(p1.set d (.d (.xs ti.size es)) (.slice (some ⟨b,0,none⟩) n0 cap0) ⟨.xs _ es _ _ _ o5 o6 o7 (by simp),.xs _ _ _ _ (.inr ⟨b,n0,cap0,cur,E,rfl,?_,o2,o3,o4,o5,o6,o7,o8,o9,o10,o11⟩)⟩)
    . exact p2.forget2 hne
    show gT (kZ (.slot ts) [] (.slot d) []) g.X b=some (.slot d, [])
    simp [gT,o1,kZ]
  obtain⟨bx,offx,capx,vvx,rfl,l1,l5,l6,l7⟩:=hvx.2 hx0;have hxlen:0<xs.length:=by cases xs <;> simp_all
  have hxsz:∀v∈vvx,v.cells.size=ti.size:=fun v hv=>(l6 v hv).1;have hnl:(vvx.flatMap fun v=>v.cells.toList).length=xs.length * ti.size:=by rw [lK vvx hxsz,l1]
  have hnews:∀(j:Nat) (u:Value),(vvx.flatMap fun v=>v.cells.toList)[j]?=some u->w.cell? ((⟨bx,offx,none⟩:Addr).add j)=some u:=fun j u hj=>l7 j u hj;have hone:∀u∈(vvx.flatMap fun v=>v.cells.toList),u.oneCell'=true:=by
    intro u hu;rw [mF] at hu;obtain⟨v,hv,hu⟩:=hu;exact(l6 v hv).2 u hu
  -- the new elements' cells
  have newc:∀(i:Nat) (x:D) (j:Nat) (y:D),xs[i]?=some x->x.cells[j]?=some y->∃u,(vvx.flatMap fun v=>v.cells.toList)[i * ti.size+j]?=some u/\R g.M g.bs y u:=by
    intro i x j y a1 a2;have hi:i<vvx.length:=by rw [l1];exact(aP.1 a1).1
    have hvi:vvx[i]?=some vvx[i]:=aS hi;have hRx:=l5 i x _ a1 hvi;have hmem:=bE a1;have hsz:=hxsz _ (bE hvi);have hj:j<vvx[i].cells.size:=by
      rw [hsz,<- (hxs x hmem).1,<- eH];exact(aP.1 a2).1
    refine⟨_,zL h8 vvx hxsz hvi (bR hj),?_⟩;by_cases hany:x= .any
    . subst hany
      have:y= .any:=by
        match j with
        | 0=>simpa [D.cells] using a2.symm
        | j+1=>simp [D.cells] at a2
      rw [this];exact .any _
    have hnt':∀cs,x≠ .tup cs:=by
      rintro cs rfl;have:=(hxs _ hmem).2;simp [D.arr,D.cells,D.flat] at this
    exact(hRx.each hany hnt' j y _ a2 (bR hj)).1
  have hxs2:∀(i:Nat) (d:D),xs[i]?=some d->d.ncells=ti.size/\d.arr=true:=fun i d h=>hxs d (bE h);have hbig:es.length+xs.length<=9223372036854775807:=by unfold maxLen at hm;omega
  have hdr:Ok w.drew g (st.set ts .any) (cJ tmps):=(hok.forget ts).drew;have bdef:∀old,old<es.length+xs.length->Builtin.nextslicecap (es.length+xs.length) old * ti.bytes<=281474976710656:=fun old ho=>growslice_fits ho hb
  -- a new array
  have grown:∀(olds:List Value) (old:Nat),olds.length=es.length * ti.size->(∀c∈olds,c.oneCell'=true)->(∀(i:Nat) (d:D),es[i]?=some d->d.ncells=ti.size/\d.arr=true)->
      (∀(i:Nat) (d:D) (j:Nat) (e:D),es[i]?=some d->d.cells[j]?=some e->∃x,olds[i * ti.size+j]?=some x/\R g.M g.bs e x)->
      ∃ g', g'.bl = g.bl /\ Fr w g (w.drew.alloc (.cells (olds.toArray ++ (vvx.flatMap fun v => v.cells.toList).toArray ++ Builtin.zeroCells zv.cells (grownCap w (es.length + xs.length) old e - (es.length + xs.length))) e)) g' /\
        Ok (w.drew.alloc (.cells (olds.toArray++(vvx.flatMap fun v=>v.cells.toList).toArray++Builtin.zeroCells zv.cells (grownCap w (es.length+xs.length) old e - (es.length+xs.length))) e)) g' ((st.set ts .any).set d (.d (.xs ti.size (es++xs))))
          (fun u=>if u=d then .slice (some ⟨w.heap.size,0,none⟩) (es.length+xs.length) (grownCap w (es.length+xs.length) old e)else cJ tmps u):=by
    intro olds old a1 a2 a3 a4;have hge := grownCap_ge w (es.length + xs.length) old e;have hcm : grownCap w (es.length + xs.length) old e <= maxLen := grownCap_le_maxLen w (es.length + xs.length) old e hm;obtain ⟨g', b1, b2, b3⟩ := hdr.freshX d e ti.size (grownCap w (es.length + xs.length) old e) (es ++ xs) (olds.toArray ++ (vvx.flatMap fun v => v.cells.toList).toArray ++ Builtin.zeroCells zv.cells (grownCap w (es.length + xs.length) old e - (es.length + xs.length))) h8
      (by simpa using hge) hcm
      (by
        simp only [vN,dX,size_zeroCells,hnl,h7,a1,<- dB];congr 1;omega)
      (fun o c ho=>by
        have hmem:c∈(olds.toArray++(vvx.flatMap fun v=>v.cells.toList).toArray++Builtin.zeroCells zv.cells (grownCap w (es.length+xs.length) old e - (es.length+xs.length))).toList:=by
          rw [<- dM] at ho;exact bE ho
        rw [kM,kM] at hmem;rcases bT.1 hmem with h | h
        . rcases bT.1 h with h | h
          . exact a2 c (by simpa using h)
          exact hone c (by simpa using h)
        exact hz c (mN h (by omega)))
      (fun i d c1=>by
        by_cases hi:i<es.length
        . rw [bC hi] at c1;exact a3 i d c1
        rw [bX (by omega)] at c1;exact hxs2 _ d c1)
      (fun i d j y c1 c2=>by
        have hjk:j<ti.size:=by
          have hd:d.ncells=ti.size:=by
            by_cases hi:i<es.length
            . rw [bC hi] at c1;exact(a3 i d c1).1
            rw [bX (by omega)] at c1;exact(hxs2 _ d c1).1
          rw [<- hd,<- eH];exact(aP.1 c2).1
        rw [<- dM,kM,kM];by_cases hi:i<es.length
        . rw [bC hi] at c1
          obtain⟨x,x1,x2⟩:=a4 i d j y c1 c2;refine⟨x,?_,x2⟩;have hlt:i * ti.size+j<olds.length:=(aP.1 x1).1;rw [bW,bC (by simpa using hlt)];simpa using x1
        rw [bX (by omega)] at c1;obtain⟨x,x1,x2⟩:=newc _ d j y c1 c2;refine⟨x,?_,x2⟩;have hlt:(i - es.length) * ti.size+j<(vvx.flatMap fun v=>v.cells.toList).length:=(aP.1 x1).1;have hsub:i * ti.size=es.length * ti.size+(i - es.length) * ti.size:=by rw [<- dB];congr 1;omega
        rw [bW,bX (by simp only [a1];omega),bC (by simp only [a1] at *;simpa using(by omega:i * ti.size+j - es.length * ti.size<(vvx.flatMap fun v=>v.cells.toList).length))];have:i * ti.size+j - es.length * ti.size=(i - es.length) * ti.size+j:=by omega
        simp only [a1];rw [this];simpa using x1)
    have hfr:Fr w g w.drew g:=Fr.drew w g;refine⟨g',b1,hfr.trans b2,?_⟩;simp only [aZ] at b3;exact b3
  rcases hO with ⟨rfl,a1,e1⟩ | ⟨b,n,cap,cur,E,e1,o1,o2,o3,o4,o5,o6,o7,o8,o9,o10,o11⟩
  . rw [hv0] at e1
    simp only [Value.slice.injEq] at e1;obtain⟨rfl,rfl,rfl⟩:=e1;subst hv0;obtain⟨g',b1,b2,b3⟩:=grown [] 0 (by simp) (fun c h=>by simp at h) (fun i d h=>by simp at h) (fun i d j e h=>by simp at h);simp only [cY,eL,aO] at *;cases a0 with
    | none =>
      refine⟨_,_,g',run_append_nil (P:=P) w t ty e ti zv h1 h2 h3 ⟨bx,offx,none⟩ xs.length capx _ hnl hnews hxlen (by omega) (by omega),b1,?_,?_⟩
      . simpa using b2
      simpa using b3
    | some a0 =>
      have hr:=run_append_grow (P:=P) w t ty e ti zv h1 h2 h3 a0 0 0 [] (by simp) (fun j v h=>by simp at h) ⟨bx,offx,none⟩ xs.length capx _ hnl hnews (by omega) (by omega) (by simpa using bdef 0 (by omega));simp only [eL] at hr;exact⟨_,_,g',hr,b1,b2,b3⟩
  rw [hv0] at e1;simp only [Value.slice.injEq] at e1;obtain⟨rfl,rfl,rfl⟩:=e1;subst hv0;subst o5;have hcs:es.length * ti.size<=cur.size:=by rw [o4];exact fO _ o6
  by_cases hroom:es.length+xs.length<=cap0
  . have hfit : es.length * ti.size + (vvx.flatMap fun v => v.cells.toList).length <= cur.size := by
      rw [hnl,o4,<- dB];exact fO _ hroom
    have hr:=vG (P:=P) w t ty e E ti h1 h2 b es.length cap0 cur o2 ⟨bx,offx,none⟩ xs.length capx _ hnl hnews hone hroom hfit;generalize hcur:(cur.toList.take (es.length * ti.size)++(vvx.flatMap fun v=>v.cells.toList)++cur.toList.drop (es.length * ti.size+(vvx.flatMap fun v=>v.cells.toList).length)).toArray=cur' at hr;have hget:∀o,cur'[o]?=if o<es.length * ti.size then cur[o]? else if o<es.length * ti.size+(vvx.flatMap fun v=>v.cells.toList).length then(vvx.flatMap fun v=>v.cells.toList)[o - es.length * ti.size]? else cur[o]?:=by
      intro o;rw [<- hcur,fZ,fH (by simpa using hfit)];simp
    have hsize:cur'.size=cur.size:=by
      rw [<- hcur,dX,iS (by simpa using hfit),cG]
    obtain⟨p1,_,_⟩:=hok.park ts _ hs hnt (kZ (.slot ts) [] (.slot d) []) (fun t ht=>rA ht);have htag:gT (kZ (.slot ts) [] (.slot d) []) g.X b=some (.slot d, []):=by simp [gT,o1,kZ]
    obtain⟨q1,q2⟩:=(p1.forget d).extend d b 0 cur cur' E (fun _=>none) htag (by simp [St.set]) o2 (fun o _=>o8 o) (fun o h=>by omega) (fun o c h=>by cases h);have q2':=(Fr.ren w g (kZ (.slot ts) [] (.slot d) [])).trans q2;refine⟨_,_,_,hr,?_,q2',?_⟩
    . rfl
    have hMM:∀o,(if o<0 then g.M b o else none)=none:=fun o=>by simp
    have q3:=q1.set d (.d (.xs ti.size (es++xs))) (.slice (some ⟨b,0,none⟩) (es.length+xs.length) cap0) ⟨.xs _ _ _ _ _ (by simp) hroom o7 (by simp),.xs _ _ _ _ (.inr ⟨b,_,cap0,cur',E,rfl,htag,setRow_heap w b cur cur' E (0,0) o2,o3,by rw [hsize,o4],by simp,hroom,o7,fun o=>by simp,?_,?_,?_⟩)⟩
    . have e : (((st.set ts (.d x0.s2)).set d .any).set d (.d (.xs ti.size (es ++ xs)))) = (st.set ts (.d x0.s2)).set d (.d (.xs ti.size (es ++ xs))) := St.set_set st ts d _ _ _
      rw [e] at q3;exact q3.forget2 hne
    . intro o c ho
      rw [hget] at ho;split at ho
      . exact o9 o c ho
      split at ho
      . exact hone c (bE ho)
      exact o9 o c ho
    . intro i d' c1
      by_cases hi:i<es.length
      . rw [bC hi] at c1;exact o10 i d' c1
      rw [bX (by omega)] at c1;exact hxs2 _ d' c1
    intro i d' j y c1 c2;by_cases hi:i<es.length
    . rw [bC hi] at c1
      obtain⟨x,x1,x2⟩:=o11 i d' j y c1 c2;have hjk:j<ti.size:=by
        rw [<- (o10 i d' c1).1,<- eH];exact(aP.1 c2).1
      have hlt:i * ti.size+j<es.length * ti.size:=by
        have:(i+1) * ti.size<=es.length * ti.size:=fO _ hi;rw [dB] at this;omega
      refine⟨x,by rw [hget,aK hlt];exact x1,x2.mono ?_ (fun _ _ h=>h)⟩;exact q2.mono
    rw [bX (by omega)] at c1;obtain⟨x,x1,x2⟩:=newc _ d' j y c1 c2;have hlt:(i - es.length) * ti.size+j<(vvx.flatMap fun v=>v.cells.toList).length:=(aP.1 x1).1;have hsub:i * ti.size=es.length * ti.size+(i - es.length) * ti.size:=by rw [<- dB];congr 1;omega
    have ha:¬(i * ti.size+j<es.length * ti.size):=by omega
    have hb':i * ti.size+j<es.length * ti.size+(vvx.flatMap fun v=>v.cells.toList).length:=by omega
    refine⟨x,by rw [hget,aD ha,aK hb',show i * ti.size+j - es.length * ti.size=(i - es.length) * ti.size+j by omega];exact x1,x2.mono q2.mono (fun _ _ h=>h)⟩
  have hto:(cur.toList.take (es.length * ti.size)).length=es.length * ti.size:=by rw [bG,cG];exact kQ hcs
  have hgt:∀(j:Nat) (v:Value),(cur.toList.take (es.length * ti.size))[j]?=some v->j<es.length * ti.size/\cur[j]?=some v:=by
    intro j v hj;rw [eN] at hj;split at hj
    . rename_i h;exact⟨h,by simpa using hj⟩
    cases hj
  obtain⟨g',b1,b2,b3⟩:=grown (cur.toList.take (es.length * ti.size)) cap0 hto (fun c hc=>by
      obtain⟨j,hj⟩:=eW hc;exact o9 j c (hgt j c hj).2) o10 (fun i d' j y c1 c2=>by
      obtain⟨x,x1,x2⟩:=o11 i d' j y c1 c2;have hi:=(aP.1 c1).1;have hjk:j<ti.size:=by
        rw [<- (o10 i d' c1).1,<- eH];exact(aP.1 c2).1
      have hlt:i * ti.size+j<es.length * ti.size:=by
        have:(i+1) * ti.size<=es.length * ti.size:=fO _ hi;rw [dB] at this;omega
      exact⟨x,by rw [eN,aK hlt];simpa using x1,x2⟩)
  have hr:=run_append_grow (P:=P) w t ty e ti zv h1 h2 h3 ⟨b,0,none⟩ es.length cap0 (cur.toList.take (es.length * ti.size)) hto (fun j v hj=>by
      rw [Addr.add_none,cell_of_row w b (0+j) cur E (0,0) o2,eL];exact(hgt j v hj).2) ⟨bx,offx,none⟩ xs.length capx _ hnl hnews (by omega) (by omega) (bdef cap0 (by omega))
  exact⟨_,_,g',hr,b1,b2,b3⟩
end
section
variable {P:Program}
theorem uJ (hk:0<k):∀(es:List D),(∀d∈es,d.cells.length=k)->∀j,(es.flatMap D.cells)[j]?=(es[j / k]?).bind fun d=>d.cells[j % k]?
  | [],_,j=>by simp
  | d :: es, h, j => by
    have hd:=h d (by simp);have ih:=uJ hk es fun x hx=>h x (by simp [hx]);rw [gG];by_cases hj:j<k
    . rw [bC (by omega),yW hj,sQ hj];rfl
    rw [bX (by omega),hd,ih];have e1:j / k=(j - k) / k+1:=by
      have:=Nat.add_div_right (j - k) hk;rw [show j - k+k=j by omega] at this;exact this
    have e2:j % k=(j - k) % k:=by
      have:=Gi (j - k) k;rw [show j - k+k=j by omega] at this;exact this
    rw [e1,e2];rfl
theorem sN :∀(es:List D),(∀d∈es,d.cells.length=k)->(es.flatMap D.cells).length=es.length * k
  | [],_=>by simp
  | d :: es, h => by
    rw [gG,aZ,h d (by simp),sN es fun x hx=>h x (by simp [hx]),bJ,dB];omega
theorem De (hk:0<k)(es:List D)(h:∀d∈es,d.cells.length=k) {i j:Nat} {d c:D} (hd:es[i]?=some d)(hc:d.cells[j]?=some c):(es.flatMap D.cells)[i * k+j]?=some c:=by
  have hj:j<k:=by rw [<- h d (bE hd)];exact(aP.1 hc).1
  rw [uJ hk es h,sK,Nat.add_mul_div_right _ _ hk,yW hj,eL,hd,Nat.add_mul_mod_self_right,sQ hj];exact hc
def gM(b:Nat)(t:mV)(X:Nat->Option mV):Nat->Option mV:=fun b'=>if b'=b then some t else X b'
theorem Ok.openX2 (h : Ok w g st val) (ts k : Nat) (es : List D) (hs : st.env ts = .d (.xs k es)) (hk0 : 0 < k) :
    ∃ (cap : Nat) (rest : List D) (g' : Gh), es.length <= cap /\ cap <= maxLen /\ rest = List.replicate ((cap - es.length) * k) .any /\ 0 < k /\ (∀ d ∈ es, d.ncells = k /\ d.arr = true) /\ g'.bl = g.bl /\ Fr w g w g' /\
      Ok w g' { st.set ts (.d (.slo st.obj.length 0 es.length cap))with obj:=st.obj++ [es.flatMap D.cells++rest] } val:=by
  have hsl:=h.slot ts;rw [hs] at hsl;obtain⟨hr,ho⟩:=hsl;have hO:Zx w g.M g.bs g.X (.slot ts, []) k es (val ts):=by
    cases ho with
    | xs p k es v ho=>exact ho
    | flat p d v hf=>simp [D.flat] at hf
  rcases hO with ⟨rfl,_⟩ | ⟨b,n,cap,cur,E,hv,o1,o2,o3,o4,o5,o6,o7,o8,o9,o10,o11⟩
  . rename_i hv0
    obtain⟨a,hv⟩:=hv0;have hbs:∀(n b':Nat),g.bs[n]?=some b'->(g.bs++ [0])[n]?=some b':=fun n b' hb=>by
      rw [bC (by exact(aP.1 hb).1)];exact hb
    have other:∀(hd:Holder) (b':Nat) (q:List Nat),g.X b'=some (hd,q)->w.heap[b']?=w.heap[b']?/\(∀o,g.M b' o=none->g.M b' o=none)/\g.X b'=some (hd,q):=fun hd b' q hx=>⟨rfl,fun _ h=>h,hx⟩;refine⟨0, [], { g with bs:=g.bs++ [0] },by simp,by simp,by simp,hk0,by simp,rfl,⟨rfl,rfl,rfl,aW _,fun b' hb' hx=>⟨rfl,hx,fun _=>rfl⟩,fun _ _ _ h=>h,hbs⟩,?_⟩;refine⟨h.mem,h.xlt,fun u=>?_,h.ll,fun n b' cs h1 h2=>(h.loc n b' cs h1 h2).keep (fun _ _ _ h=>h) hbs (other _),by simp [h.ol],fun n b' cs h1 h2=>?_⟩
    . simp only [St.set]
      by_cases hu:u=ts
      . subst hu
        simp only [aU];rw [hv];exact⟨.slo _ 0 _ 0 _ (fun h=>absurd h (by simp)) (by simp) (by simp),.flat _ _ _ rfl⟩
      simp only [hu,bK];exact(h.slot u).keep (fun _ _ _ h=>h) hbs (fun _ _ h=>h) (other _)
    by_cases hn:n<st.obj.length
    . have h1' : g.bs[n]? = some b' := by rw [bC (by rw [h.ol]; exact hn)] at h1; exact h1
      have h2':st.obj[n]?=some cs:=by rw [bC hn] at h2;exact h2
      exact(h.obj n b' cs h1' h2').keep (fun _ _ _ h=>h) hbs (other _)
    have hlt:=(aP.1 h2).1;simp at hlt;have hn':n=st.obj.length:=by omega
    subst hn';exact .inl (by simpa using h2.symm)
  subst o5;have hlen:∀d∈es,d.cells.length=k:=fun d hd=>by
    obtain⟨i,hi⟩:=eW hd;rw [eH];exact(o10 i d hi).1
  have hfl:=sN es hlen;have hbs:∀(n b':Nat),g.bs[n]?=some b'->(g.bs++ [b])[n]?=some b':=fun n b' hb=>by
    rw [bC (by exact(aP.1 hb).1)];exact hb
  have hsub:es.length * k+(cap - es.length) * k=cap * k:=by rw [<- dB];congr 1;omega
  have other:∀(hd:Holder),hd≠ .slot ts->∀(b':Nat) (q:List Nat),g.X b'=some (hd,q)->w.heap[b']?=w.heap[b']?/\(∀o,g.M b' o=none->g.M b' o=none)/\gM b (.obj st.obj.length, []) g.X b'=some (hd,q):=by
    intro hd hne b' q hx;refine⟨rfl,fun _ h=>h,?_⟩;have:b'≠b:=by intro e;subst e;rw [o1] at hx;simp only [bF,gI] at hx;exact hne hx.1.symm
    simp only [gM,aD this];exact hx
  refine⟨cap,List.replicate ((cap - es.length) * k) .any, { g with X:=gM b (.obj st.obj.length, []) g.X,bs:=g.bs++ [b] },o6,o7,rfl,o3,fun d hd=>by
    obtain⟨i,hi⟩:=eW hd;exact o10 i d hi,rfl,⟨rfl,rfl,rfl,aW _,fun b' hb' hx=>⟨rfl,?_,fun _=>rfl⟩,fun _ _ _ h=>h,hbs⟩,?_⟩
  . have : b' ≠ b := by intro e; subst e; rw [o1] at hx; cases hx
    show gM b (.obj st.obj.length, []) g.X b'=none
    simp only [gM,aD this];exact hx
  refine⟨h.mem,fun b' t hx=>?_,fun u=>?_,h.ll,fun n b' cs h1 h2=>(h.loc n b' cs h1 h2).keep (fun _ _ _ h=>h) hbs (other _ (by simp)),by simp [h.ol],fun n b' cs h1 h2=>?_⟩
  . by_cases e : b' = b
    . subst e;exact h.xlt _ _ o1
    simp only [gM,aD e] at hx;exact h.xlt b' t hx
  . simp only [St.set]
    by_cases hu:u=ts
    . subst hu
      simp only [aU];rw [hv];exact⟨.slo _ 0 _ cap _ (fun _=>⟨b,by rw [<- h.ol];simp,rfl⟩) o6 o7,.flat _ _ _ rfl⟩
    simp only [hu,bK];exact(h.slot u).keep (fun _ _ _ h=>h) hbs (fun _ _ h=>h) (other _ (by simp [hu]))
  by_cases hn:n<st.obj.length
  . have h1' : g.bs[n]? = some b' := by rw [bC (by rw [h.ol]; exact hn)] at h1; exact h1
    have h2':st.obj[n]?=some cs:=by rw [bC hn] at h2;exact h2
    exact(h.obj n b' cs h1' h2').keep (fun _ _ _ h=>h) hbs (other _ (by simp))
  have hlt:=(aP.1 h2).1;simp at hlt;have hn':n=st.obj.length:=by omega
  subst hn';have e1:b'=b:=by
    have h1':=h1;rw [<- h.ol] at h1';simpa using h1'.symm
  have e2:cs=es.flatMap D.cells++List.replicate ((cap - es.length) * k) .any:=by simpa using h2.symm
  subst e1;subst e2;refine .inr ⟨cur,E,o2,?_,by simp [gM],o8,fun i d x a1 a2=>?_⟩
  . rw [aZ,hfl,cR,hsub,o4]
  have h1c:=o9 i x a2;by_cases hi:i<es.length * k
  . rw [bC (by rw [hfl]; exact hi), uJ o3 es hlen, mC] at a1
    obtain⟨d0,b1,b2⟩:=a1;obtain⟨y,y1,y2⟩:=o11 _ d0 _ d b1 b2;have:i / k * k+i % k=i:=by rw [qU];exact yD i k
    rw [this,a2] at y1;have hyx:y=x:=by simpa using y1.symm
    subst hyx;have harr:=(o10 _ d0 b1).2;have hf:d.flat=true:=by
      unfold D.arr at harr;rw [gF] at harr;exact harr d (bE b2)
    exact⟨y2.mono (fun _ _ _ h=>h) hbs,.flat _ _ _ hf,h1c⟩
  rw [bX (by rw [hfl];omega)] at a1;have hd:d= .any:=qO (bE a1);subst hd;exact⟨.any _,.flat _ _ _ rfl,h1c⟩
theorem Ok.openX (h:Ok w g st val)(ts k:Nat)(es:List D)(hs:st.env ts= .d (.xs k es))(hk0:0<k):
    ∃ (cap : Nat) (rest : List D) (g' : Gh), es.length <= cap /\ cap <= maxLen /\ rest.length = (cap - es.length) * k /\ 0 < k /\ (∀ d ∈ es, d.ncells = k /\ d.arr = true) /\ g'.bl = g.bl /\ Fr w g w g' /\
      Ok w g' { st.set ts (.d (.slo st.obj.length 0 es.length cap))with obj:=st.obj++ [es.flatMap D.cells++rest] } val:=by
  obtain⟨cap,rest,g',a1,a2,a3,a4,a5,a6,a7,a8⟩:=h.openX2 ts k es hs hk0;exact⟨cap,rest,g',a1,a2,by rw [a3,cR],a4,a5,a6,a7,a8⟩
theorem Ok.closeX (h : Ok w g st val) (ts k m len cap : Nat) (es cs : List D) (hs : st.env ts = .d (.slo m 0 len cap)) (hm : st.obj[m]? = some cs) (hk : 0 < k) (hcs : cs.length = cap * k) (hl : es.length = len)
    (hes:∀d∈es,d.ncells=k/\d.arr=true) (he:es.flatMap D.cells<+:cs):
    ∃g',g'.bl=g.bl/\Fr w g w g'/\Ok w g' { st.set ts (.d (.xs k es))with obj:=st.obj.set m [] } val:=by
  have hsl:=h.slot ts;rw [hs] at hsl;obtain⟨hr,_⟩:=hsl;generalize hv:val ts=v at hr;cases hr with
  | slo _ _ _ _ x hb hc hmx=>
  have hml0:m<st.obj.length:=(aP.1 hm).1;rcases uX cap with hc0 | hcap0
  . subst hc0
    have hl0:len=0:=by omega
    subst hl0;have hes0:es= []:=nO hl;subst hes0;have other:∀(hd:Holder) (b':Nat) (q:List Nat),g.X b'=some (hd,q)->w.heap[b']?=w.heap[b']?/\(∀o,g.M b' o=none->g.M b' o=none)/\g.X b'=some (hd,q):=fun hd b' q hx=>⟨rfl,fun _ h=>h,hx⟩;refine⟨g,rfl,Fr.refl w g,h.mem,h.xlt,fun u=>?_,h.ll,h.loc,by simp [h.ol],fun n b' cs' h1 h2=>?_⟩
    . simp only [St.set]
      by_cases hu:u=ts
      . subst hu
        simp only [aU];rw [hv];exact⟨.xs k [] _ _ 0 rfl (aW _) hmx (fun _=>⟨rfl,rfl⟩),.xs _ _ _ _ (.inl ⟨rfl,_,rfl⟩)⟩
      simp only [hu,bK];exact h.slot u
    rw [cL] at h2;split at h2
    . simp only [bF] at h2
      exact .inl (by simpa [hml0] using h2.symm)
    exact h.obj n b' cs' h1 h2
  have hne:cs≠ []:=by
    intro e;rw [e] at hcs;have:0<cap * k:=qA hcap0 hk;simp at hcs;omega
  obtain⟨b,hb2,rfl⟩:=hb hcap0;obtain⟨cur,E,o1,o2,o3,o4,o5⟩:=(h.obj m b cs hb2 hm).resolve_left hne;have hlen:∀d∈es,d.cells.length=k:=fun d hd=>by rw [eH];exact(hes d hd).1
  have hml:m<st.obj.length:=(aP.1 hm).1;have other:∀(hd:Holder),hd≠ .obj m->∀(b':Nat) (q:List Nat),g.X b'=some (hd,q)->w.heap[b']?=w.heap[b']?/\(∀o,g.M b' o=none->g.M b' o=none)/\gM b (.slot ts, []) g.X b'=some (hd,q):=by
    intro hd hne b' q hx;refine⟨rfl,fun _ h=>h,?_⟩;have:b'≠b:=by intro e;subst e;rw [o3] at hx;simp only [bF,gI] at hx;exact hne hx.1.symm
    simp only [gM,aD this];exact hx
  refine⟨{ g with X:=gM b (.slot ts, []) g.X },rfl,⟨rfl,rfl,rfl,aW _,fun b' hb' hx=>⟨rfl,?_,fun _=>rfl⟩,fun _ _ _ h=>h,fun _ _ h=>h⟩,?_⟩
  . have : b' ≠ b := by intro e; subst e; rw [o3] at hx; cases hx
    show gM b (.slot ts, []) g.X b'=none
    simp only [gM,aD this];exact hx
  refine⟨h.mem,fun b' t hx=>?_,fun u=>?_,h.ll,fun n b' cs h1 h2=>(h.loc n b' cs h1 h2).keep (fun _ _ _ h=>h) (fun _ _ h=>h) (other _ (by simp)),by simp [h.ol],fun n b' cs' h1 h2=>?_⟩
  . by_cases e : b' = b
    . subst e;exact h.xlt _ _ o3
    simp only [gM,aD e] at hx;exact h.xlt b' t hx
  . simp only [St.set]
    by_cases hu:u=ts
    . subst hu
      simp only [aU];rw [hv];refine⟨.xs k es _ _ cap hl.symm (by omega) hmx (by simp),.xs _ _ _ _ (.inr ⟨b,len,cap,cur,E,rfl,by simp [gM],o1,hk,by rw [o2,hcs],hl.symm,hc,hmx,o4,fun o c ho=>?_,fun i d hi=>hes d (bE hi),fun i d j e a1 a2=>?_⟩)⟩
      . have hlt := (dL.1 ho).1
        rw [o2] at hlt;exact(o5 o _ c (aS hlt) ho).2.2
      have hcell:=De hk es hlen a1 a2;obtain⟨rest,hrest⟩:=he;have hcc:cs[i * k+j]?=some e:=by
        rw [<- hrest,bC (by exact(aP.1 hcell).1)];exact hcell
      have hlt:=(aP.1 hcc).1;rw [<- o2] at hlt;exact⟨_,bR hlt,(o5 _ e _ hcc (bR hlt)).1⟩
    simp only [hu,bK];exact(h.slot u).keep (fun _ _ _ h=>h) (fun _ _ h=>h) (fun _ _ h=>h) (other _ (by simp))
  rw [cL] at h2;split at h2
  . simp only [bF] at h2
    exact .inl (by simpa [hml] using h2.symm)
  rename_i e;exact(h.obj n b' cs' h1 h2).keep (fun _ _ _ h=>h) (fun _ _ h=>h) (other _ (by simp;exact fun e'=>e e'.symm))
end
section
variable {P:Program}
def Mp(cur:Array Value)(k i:Nat):D->Value
  | .agg _=> .agg (cur.extract (i * k) (i * k+k))
  | _=>cur.getD (i * k) undef
theorem aAh {M:Mem} {bs:List Nat} {cur:Array Value} {i:Nat} {d:D} (hd:d.ncells=k)(ha:d.arr=true)(hfit:i * k+k<=cur.size)(h1:∀(o:Nat) (c:Value),cur[o]?=some c->c.oneCell'=true)
    (hr:∀(j:Nat) (e:D),d.cells[j]?=some e->∃x,cur[i * k+j]?=some x/\R M bs e x) (hk:0<k):
    R M bs d (Mp cur k i d)/\(Mp cur k i d).cells.size=k/\∀(j:Nat) (c:Value),(Mp cur k i d).cells[j]?=some c->j<k/\cur[i * k+j]?=some c:=by
  by_cases hag:∃cs,d= .agg cs
  . obtain ⟨cs, rfl⟩ := hag
    have hsz:(cur.extract (i * k) (i * k+k)).size=k:=by rw [Array.size_extract];omega
    have hget:∀j,j<k->(cur.extract (i * k) (i * k+k))[j]?=cur[i * k+j]?:=fun j hj=>by
      rw [vI];rw [aK (by omega)]
    have hcs:cs.length=k:=hd;refine⟨.agg cs _ (by rw [hsz,hcs]) (fun j e x a1 a2=>?_) (fun j x a2=>?_),hsz,fun j c hj=>?_⟩
    . have hj : j < k := by rw [<- hcs]; exact (aP.1 a1).1
      rw [hget j hj] at a2;obtain⟨y,y1,y2⟩:=hr j e a1;rw [a2] at y1;have:y=x:=by simpa using y1.symm
      subst this;exact y2
    . have hj : j < k := by rw [<- hsz]; exact (dL.1 a2).1
      rw [hget j hj] at a2;exact h1 _ x a2
    have hj':j<k:=by
      have:=(dL.1 hj).1;simp only [Mp,Value.cells] at this;omega
    exact⟨hj',by rw [<- hget j hj'];exact hj⟩
  have hc:d.cells= [d]:=by cases d <;> first | rfl | exact absurd ⟨_,rfl⟩ hag
  have hk1:k=1:=by rw [<- hd,<- eH,hc];rfl
  subst hk1;obtain⟨x,x1,x2⟩:=hr 0 d (by rw [hc];rfl);have he:Mp cur 1 i d=x:=by
    have:Mp cur 1 i d=cur.getD (i * 1) undef:=by cases d <;> first | rfl | exact absurd ⟨_,rfl⟩ hag
    rw [this,kO];have x1':cur[i * 1]?=some x:=by simpa using x1
    rw [x1'];rfl
  have h1x:=h1 _ x x1;rw [he];refine⟨x2,by rw [Value.cells_one h1x];rfl,fun j c hj=>?_⟩;rw [Value.cells_one h1x] at hj
  match j with
  | 0=>simp at hj;subst hj;exact⟨by omega,x1⟩
  | j+1=>simp at hj
theorem Ok.freezeX (h:Ok w g st val)(ts k:Nat)(es:List D)(hs:st.env ts= .d (.xs k es)):
    ∃g',g'.bl=g.bl/\Fr w g w g'/\Ok w g' (st.set ts (.d (.sl false es))) val:=by
  have hsl:=h.slot ts;rw [hs] at hsl;obtain⟨hr,ho⟩:=hsl;have hO:Zx w g.M g.bs g.X (.slot ts, []) k es (val ts):=by
    cases ho with
    | xs p k es v ho=>exact ho
    | flat p d v hf=>simp [D.flat] at hf
  have valset:(fun u=>if u=ts then val ts else val u)=val:=by funext u;split <;> simp_all
  by_cases hes:es= []
  . subst hes
    generalize hv:val ts=v at hr;cases hr with
    | xs _ _ a n cap hn hc hm ha=>
    have hn0:n=0:=by simpa using hn
    subst hn0;refine⟨g,rfl,Fr.refl w g,?_⟩;have:=h.set ts (.d (.sl false [])) (val ts) ⟨by
      rw [hv];cases a with
      | none=>obtain⟨_,rfl⟩:=ha rfl;exact .nil _
      | some a=>exact .emp _ a cap hm,.flat _ _ _ rfl⟩
    rwa [valset] at this
  rcases hO with ⟨rfl,_⟩ | ⟨b,n,cap,cur,E,hv,o1,o2,o3,o4,o5,o6,o7,o8,o9,o10,o11⟩
  . exact absurd rfl hes
  subst o5
  let M':Mem:=fun b' o=>if b'=b then(if o<es.length * k then cur[o]? else none)else g.M b' o
  have hle:g.M.le M':=fun b' o c hc=>by
    by_cases e:b'=b
    . subst e;rw [o8] at hc;cases hc
    simp only [M',aD e];exact hc
  have other:∀(hd:Holder),hd≠ .slot ts->∀(b':Nat) (q:List Nat),g.X b'=some (hd,q)->w.heap[b']?=w.heap[b']?/\(∀o,g.M b' o=none->M' b' o=none)/\g.X b'=some (hd,q):=by
    intro hd hne b' q hx;have:b'≠b:=by intro e;subst e;rw [o1] at hx;simp only [bF,gI] at hx;exact hne hx.1.symm
    exact⟨rfl,fun o ho=>by simp only [M',aD this];exact ho,hx⟩
  refine⟨{ g with M:=M' },rfl,⟨rfl,rfl,rfl,aW _,fun b' hb' hx=>⟨rfl,hx,fun o=>?_⟩,hle,fun _ _ h=>h⟩,⟨fun b' o c hc=>?_,h.xlt,fun u=>?_,h.ll,fun n b' cs h1 h2=>(h.loc n b' cs h1 h2).keep hle (fun _ _ h=>h) (other _ (by simp)),h.ol,fun n b' cs h1 h2=>(h.obj n b' cs h1 h2).keep hle (fun _ _ h=>h) (other _ (by simp))⟩⟩
  . have : b' ≠ b := by intro e; subst e; rw [o1] at hx; cases hx
    show M' b' o=_
    simp only [M',aD this]
  . by_cases e : b' = b
    . subst e
      simp only [M',aU] at hc;split at hc
      . rw [cell_of_row w b' o cur E (0,0) o2];exact hc
      cases hc
    simp only [M',aD e] at hc;exact h.mem b' o c hc
  simp only [St.set];by_cases hu:u=ts
  . subst hu
    simp only [aU];rw [hv];refine⟨?_,.flat _ _ _ rfl⟩;have hfit:∀i,i<es.length->i * k+k<=es.length * k:=fun i hi=>by
      have:(i+1) * k<=es.length * k:=fO _ hi;rw [dB] at this;omega
    have hcap:es.length * k<=cur.size:=by rw [o4];exact fO _ o6
    have el:∀(i:Nat) (d:D),es[i]?=some d->R M' g.bs d (Mp cur k i d)/\(Mp cur k i d).cells.size=k/\∀(j:Nat) (c:Value),(Mp cur k i d).cells[j]?=some c->j<k/\cur[i * k+j]?=some c:=by
      intro i d hi;have hil:=(aP.1 hi).1;have:=hfit i hil;obtain⟨r1,r2,r3⟩:=aAh (M:=g.M) (bs:=g.bs) (o10 i d hi).1 (o10 i d hi).2 (by omega) o9 (fun j e hj=>o11 i d j e hi hj) o3;exact⟨r1.mono hle (fun _ _ h=>h),r2,r3⟩
    have hvs:∀(i:Nat) (x:Value),(es.mapIdx fun i d=>Mp cur k i d)[i]?=some x->∃d,es[i]?=some d/\x=Mp cur k i d:=by
      intro i x hi;rw [List.getElem?_mapIdx,dG] at hi;obtain⟨d,h1,h2⟩:=hi;exact⟨d,h1,h2.symm⟩
    refine .sl false es b 0 _ cap k (es.mapIdx fun i d=>Mp cur k i d) (by simp) rfl o3 o6 o7 (fun i d x a1 a2=>?_) (fun i d hi=>(o10 i d hi).1) (fun i x a2=>?_)
    . obtain ⟨d', h1, rfl⟩ := hvs i x a2
      rw [a1] at h1;have:d=d':=by simpa using h1
      subst this;exact(el i d a1).1
    obtain⟨d',h1,rfl⟩:=hvs i x a2;obtain⟨r1,r2,r3⟩:=el i d' h1;refine⟨r2,fun j c hj=>?_⟩;obtain⟨hj1,hj2⟩:=r3 j c hj;have:=hfit i (aP.1 h1).1;refine⟨o9 _ c hj2,?_⟩;simp only [M',aU,eL];rw [aK (by omega)];exact hj2
  simp only [hu,bK];exact(h.slot u).keep hle (fun _ _ h=>h) (fun _ _ h=>h) (other _ (by simp [hu]))
theorem Ct.freeze {f:FuncId} {args:List D} {σ:List (List D)} {Q:D->List (List D)->Prop} {es:List D} {Z:List (List D)->Prop} (h:Ct P f args σ Q)(hq:∀r σ',Q r σ'->r= .xs k es/\Z σ'):Ct P f args σ (fun r σ'=>r= .sl false es/\Z σ'):=by
  refine⟨h.1,fun w g vs hs hb ho=>(h.2 w g vs hs hb ho).mono ?_⟩;rintro e w' ⟨r,σ',x,g',rfl,hQ,hb',hf,hk⟩;obtain⟨rfl,hz⟩:=hq r σ' hQ;obtain⟨g2,b1,b2,b3⟩:=hk.freezeX 0 k es rfl;refine⟨_,σ',x,g2,rfl,⟨rfl,hz⟩,b1.trans hb',hf.trans b2,?_⟩;have e:(St.ofRes (.xs k es) σ').set 0 (.d (.sl false es))=St.ofRes (.sl false es) σ':=by
    simp only [St.ofRes,St.set];congr 1;funext u
    match u with
    | 0=>rfl
    | u+1=>rfl
  rwa [e] at b3
end
end Go.Vm
