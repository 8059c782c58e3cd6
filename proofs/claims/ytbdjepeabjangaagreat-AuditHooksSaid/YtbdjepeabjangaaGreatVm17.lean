import Derived.Test.YtbdjepeabjangaaGreatVm15
set_option linter.all false
namespace Go.Vm
open Go
variable {tmps:Array Value}
section
variable {P:Program}
def Ci (P : Program) (s : St) : ResultVar -> Option (D × Option Holder)
 | .tmp t=>match s.env t with
  | .d (.tup _)=>none
  | .d d=>some (d,some (.slot t))
  | .lref _ _=>none
 | .cell a t => match fE P t, s.env a with
  | some (ag, n), .lref m off => match s.loc[m]? with
   | some cs=>match sH ag n (cs.drop off)with
    | some y=>if ag=true/\off=0 then some (y,some (.loc m))else some (y.s2,none)
    | none=>none
   | none=>none
  | _,_=>none
def xB(P:Program)(s:St):List ResultVar->Option (List (D×Option Holder))
 | []=>some []
 | r::rs=>match Ci P s r,xB P s rs with
  | some x,some xs=>some (x::xs)
  | _,_=>none
def D.ofList:List D->D
 | [d]=>d
 | ds=> .tup ds
def xA(hs:List (Option Holder)):jK->Option jK
 | (.obj n,q)=>some (.obj n,q)
 | (h,q)=>(hs.findIdx? (· ==some h)).map fun i=>(.slot 0,(if hs.length=1 then [] else [i])++q)
def Iq(hs:List (Option Holder)):Bool:=decide (hs.filterMap id).Nodup
def aT(P:Program)(rs:List ResultVar)(Q:D->List (List D)->Prop):Exit->St->Prop:=fun e s=>
 (match e with | .normal | .ret=>True | _=>False)/\match xB P s rs with
  | some xs=>Iq (xs.map (·.2))=true/\Q (D.ofList (xs.map (·.1))) s.obj
  | none=>False
theorem rV:∀(hs:List (Option Holder)) (i:Nat) (h:Holder),(hs.filterMap id).Nodup->hs[i]?=some (some h)->hs.findIdx? (· ==some h)=some i
 | [],i,h,_,e=>by simp at e
 | x :: hs, i, h, hn, e => by
  match i with
  | 0=>
   simp only [nM,aP] at e;simp [tW,e]
  | i + 1 =>
   have e':hs[i]?=some (some h):=by simpa using e
   have hne:x≠some h:=by
    intro ex;subst ex;have hmem:h∈hs.filterMap id:=kV.2 ⟨some h,aS e',rfl⟩;simp only [qK,id] at hn;exact(oB.1 hn).1 hmem
   have hn':(hs.filterMap id).Nodup:=by
    simp only [qK] at hn;split at hn
    .exact hn
    exact(oB.1 hn).2
   have ih:=rV hs i h hn' e';simp [tW,hne,ih]
def Zd(tmps:Array Value):ResultVar->Sem Value
 | .tmp t=>pure (tmps.getD t undef)
 | .cell a t=>do loadVar t (<- asAddr (tmps.getD a undef))
def Zy(w:World)(g:Gh)(d:D)(v:Value):Option Holder->Prop
 | some hd=>(∀n,hd≠ .obj n)/\Own w g.M g.bs g.X hd [] d v
 | none=>∀X h p,Own w g.M g.bs X h p d v
theorem Hf {w : World} {g : Gh} {s : St} (hok : Ok w g s (bQ tmps)) {r : ResultVar} {d : D} {ho : Option Holder} (h : Ci P s r = some (d, ho)) :
  ∃v,(Zd tmps r).run P w= .ok v w/\R g.M g.bs d v/\(∀cs,d≠ .tup cs)/\Zy w g d v ho:=by
 cases r with
 | tmp t=>
  have hs:=hok.slot t;simp only [Ci] at h;split at h
  .cases h
  .rename_i y hne hy;simp only [aP,fK] at h;obtain⟨rfl,rfl⟩:=h;rw [hy] at hs;exact⟨_,rfl,hs.1,fun cs e=>hne cs e,by simp,hs.2⟩
  cases h
 | cell a t =>
  simp only [Ci] at h;split at h
  .rename_i ag n m off ht ha;split at h
   .rename_i cs hcs;split at h
    .rename_i y hld;obtain⟨b,hb,hv⟩:=hok.rdL (x:= .tmp a) ha;have hv':tmps.getD a undef= .pointer (some ⟨b,off,none⟩):=hv;have hbx:=hok.loc m b cs hb hcs;obtain⟨v,hrun,hr⟩:=sB (P:=P) (xN hbx off) ht hld;have hnt:=pH (xN hbx off) hld;have hrun':(Zd tmps (.cell a t)).run P w= .ok v w:=by
      simp only [Zd,hv'];simp [asAddr,hrun]
     split at h
     .rename_i hc;simp only [aP,fK] at h;obtain⟨rfl,rfl⟩:=h;obtain⟨rfl,rfl⟩:=hc;refine⟨v,hrun',hr,hnt,by simp,?_⟩;rcases hbx with rfl | ⟨cur,E,h1,h2,h3,h4,h5⟩
      .simp only [sH,aJ,pW,List.take_nil] at hld;split at hld
       .simp only [aP] at hld;subst hld;cases hr with
        | agg _ vs hl hrr h1'=>exact .agg _ _ vs fun i e c a1 a2=>by simp at a1
       cases hld
      simp only [sH,aJ,pW] at hld;split at hld
      .simp only [aP] at hld;subst hld;cases hr with
       | agg _ vs hl hrr h1' =>
        refine .agg _ _ vs fun i e c a1 a2=>?_;rw [dX] at a1;split at a1
        .rename_i hin
         -- the value's cells are the box's
         have hcu:cur[i]?=some c:=by
          obtain⟨td,ti,i1,i2,i3,i4⟩:=lD ht;have e1:∀(j:Nat) (x:Value),(cur.toList.take n)[j]?=some x->w.cell? ((⟨b,0,none⟩:Addr).add j)=some x:=by
           intro j x hj;rw [Addr.add_none,dT,cell_of_row w b j cur E (0,0) h1];rw [dX] at hj;split at hj
           .rw [cQ] at hj;exact hj
           cases hj
          have hlen:(cur.toList.take n).length=n:=by
           rw [bB,bF,h2];omega
          have hl2:=run_loadCells_list (P:=P) w ⟨b,0,none⟩ (cur.toList.take n) e1;rw [hlen] at hl2;have:(loadVar t ⟨b,0,none⟩).run P w= .ok (.agg (cur.toList.take n).toArray) w:=by simp [loadVar,kT i1,i3,bH i2,i4,hl2]
          rw [this] at hrun;simp only [Result.ok.injEq,nJ,Value.agg.injEq] at hrun;rw [<- hrun,eO,dX,aR hin,cQ] at a2;exact a2
         exact(h5 i e c a1 hcu).2.1
        cases a1
      cases hld
     simp only [aP,fK] at h;obtain⟨rfl,rfl⟩:=h;refine⟨v,hrun',hr.s2,?_,fun X h p=>uX hr hnt⟩;intro ds e;cases y <;> simp [D.s2,D.s1] at e;exact absurd rfl (hnt _)
    cases h
   cases h
  cases h
theorem vR {w:World} {g:Gh} {s:St} (hok:Ok w g s (bQ tmps)):∀(rs:List ResultVar) (xs:List (D×Option Holder)),xB P s rs=some xs->∃vs:List Value,vs.length=xs.length/\
  (rs.mapM (Zd tmps)).run P w= .ok vs w/\
  ∀(i:Nat) (x:D×Option Holder) (v:Value),xs[i]?=some x->vs[i]?=some v->R g.M g.bs x.1 v/\(∀cs,x.1≠ .tup cs)/\Zy w g x.1 v x.2
 | [],xs,h=>by
  simp only [xB,aP] at h;subst h;exact⟨[],rfl,rfl,fun i x v h=>by simp at h⟩
 | r :: rs, xs, h => by
  simp only [xB] at h;split at h
  .rename_i x ys h1 h2;simp only [aP] at h;subst h;obtain⟨d,ho⟩:=x;obtain⟨v,a1,a2,a3,a4⟩:=Hf hok h1;obtain⟨vs,b1,b2,b3⟩:=vR hok rs ys h2;refine⟨v::vs,by simp [b1],?_,fun i x u c1 c2=>?_⟩
   .rw [List.mapM_cons,Sem.run_bind];rw [a1,Result.andThen_ok,Sem.run_bind,b2];rfl
   match i with
   | 0=>simp at c1 c2;subst c1;subst c2;exact⟨a2,a3,a4⟩
   | i+1=>exact b3 i x u (by simpa using c1) (by simpa using c2)
  cases h
theorem aLi {f : FuncId} {fn : Func} {c : Code} {args : List D} {σ : List (List D)} {Q : D → List (List D) → Prop} (hf : P.funcs[f]? = some fn) (hb : fn.body = some c) (hname : (fn.name != "runtime.NumGoroutine") = true)
  (h:AWP P c (aT P fn.results.toList Q) { n:=args.length+(fn.ntmps - args.length),env:=eP args,loc:= [],obj:=σ }):Ct P f args σ Q:=by
 refine⟨by simp only [vO,hf,hb];simp only [hname];rfl,fun w g vs hsz hbl hok=>?_⟩;refine(callsIn_wide (n:=0)).1 (callsIn_of_wp_marks hf hb trivial ?_);have hok':Ok w g { n:=args.length+(fn.ntmps - args.length),env:=eP args,loc:= [],obj:=σ } (bQ (vs++Array.replicate (fn.ntmps - vs.size) undef)):=by
  refine⟨hok.mem,hok.xlt,fun t=>?_,hok.ll,hok.loc,hok.ol,hok.obj⟩;have hs:=hok.slot t;have e:(St.ofArgs args σ).env t=eP args t:=rfl;rw [e] at hs;show SlotOk w g t (eP args t) _
  by_cases ht:t<vs.size
  .have:bQ (vs++Array.replicate (fn.ntmps - vs.size) undef) t=bQ vs t:=by
    simp [bQ,uB,ht]
   rw [this];exact hs
  have:eP args t= .any:=by
   simp only [eP];rw [gP (by omega)]
  rw [this];exact⟨.any _,.flat _ _ _ rfl⟩
 refine wpIn_mono (F:=fR none) (h w g w g _ (.of (Fr.refl w g)) hok' (by simp [hsz])) ?_;rintro e a w1 ⟨hd,st',g',⟨hexit,hq⟩,hf1,hok1,hn'⟩;have main:∀w':World,Fr w g w' g'->Ok w' g' st' (bQ a.tmps)->∃v,(results fn a.tmps).run P w'= .ok v w'/\∃r σ' x g',Ending.returned v= .returned x/\Q r σ'/\g'.bl= []/\Fr w g w' g'/\Ok w' g' (St.ofRes r σ') (fun t=>if t=0 then x else undef):=by
  intro w' hf' hok'';split at hq
  .rename_i xs hxs;obtain⟨hh,hQ⟩:=hq;obtain⟨vs',b1,b2,b3⟩:=vR hok'' _ xs hxs;have hnd:((xs.map (·.2)).filterMap id).Nodup:=by simpa [Iq] using hh
   have hrun:(results fn a.tmps).run P w'= .ok (if h:vs'.toArray.size=1 then vs'.toArray[0] else .tuple vs'.toArray) w':=by
    have e0:results fn a.tmps=(do let vs <- fn.results.mapM (Zd a.tmps);pure (if h:vs.size=1 then vs[0] else .tuple vs)):=by
     unfold results;congr 1
    rw [e0,Sem.run_bind,Gi,Sem.run_map,b2];rfl
   refine⟨_,hrun,D.ofList (xs.map (·.1)),st'.obj,_, { M:=g'.M,X:=fun b=>(g'.X b).bind (xA (xs.map (·.2))),bl:= [],bs:=g'.bs },rfl,hQ,rfl,?_,?_⟩
   .exact⟨hf'.os,hf'.tape,hf'.output,hf'.size,fun b hb hx=>by
     obtain⟨c1,c2,c3⟩:=hf'.keep b hb hx;exact⟨c1,by simp [c2],c3⟩,hf'.mono,hf'.bs⟩
   refine⟨hok''.mem,fun b t hb=>?_,fun t=>?_,rfl,fun n b cs h1 h2=>by simp at h1,hok''.ol,fun n b cs h1 h2=>?_⟩
   .simp only [jE] at hb;obtain⟨t',hb,_⟩:=hb;exact hok''.xlt b t' hb
   .show SlotOk w' _ t (eP [D.ofList (xs.map (·.1))] t) _
    by_cases ht:t=0
    .subst ht;simp only [eP,nM,aJ]
     -- each result with its rights
     have each:∀(i:Nat) (x:D×Option Holder) (v:Value),xs[i]?=some x->vs'[i]?=some v->R g'.M g'.bs x.1 v/\(∀cs,x.1≠ .tup cs)/\Own w' g'.M g'.bs (fun b=>(g'.X b).bind (xA (xs.map (·.2)))) (.slot 0) (if(xs.map (·.2)).length=1 then [] else [i]) x.1 v:=by
      intro i x v c1 c2;obtain⟨d1,d2,d3⟩:=b3 i x v c1 c2;refine⟨d1,d2,?_⟩;cases hx2:x.2 with
      | none=>rw [hx2] at d3;exact d3 _ _ _
      | some hd=>
       rw [hx2] at d3;refine d3.2.move (fun _ _ _ h=>h) (fun _ _ h=>h) _ fun b q hb=>⟨rfl,fun _ h=>h,?_⟩;have hi:(xs.map (·.2))[i]?=some (some hd):=by rw [bP,c1,eT,hx2]
       have hidx:=rV _ i hd hnd hi;simp only [aK] at hb;simp only [hb,pR];have hno:=d3.1;cases hd with
       | obj n=>exact absurd rfl (hno n)
       | slot t=>simp only [xA,hidx,eT]
       | loc t=>simp only [xA,hidx,eT]
     rcases xs with _ | ⟨x,_ | ⟨y,xs⟩⟩
     .rcases vs' with _ | ⟨v,vs'⟩
      .simp only [D.ofList,nN];exact⟨.tup [] #[] rfl (fun i d x h=>by simp at h),.tup _ [] #[] (fun i d x h=>by simp at h)⟩
      simp at b1
     .rcases vs' with _ | ⟨v,_ | ⟨u,vs'⟩⟩
      .simp at b1
      .obtain⟨d1,d2,d3⟩:=each 0 x v rfl rfl;have d3':Own w' g'.M g'.bs (fun b=>(g'.X b).bind (xA [x.2])) (.slot 0) [] x.1 v:=by simpa using d3
       exact⟨d1,d3'⟩
      simp at b1
     rcases vs' with _ | ⟨v,_ | ⟨u,vs'⟩⟩
     .simp at b1
     .simp at b1
     have hlen:((x::y::xs).map (·.2)).length≠1:=by simp
     simp only [aG hlen] at each;have e1:D.ofList ((x::y::xs).map (·.1))= .tup ((x::y::xs).map (·.1)):=rfl;rw [e1];have e2:(if h:(v::u::vs').toArray.size=1 then(v::u::vs').toArray[0] else Value.tuple (v::u::vs').toArray)= .tuple (v::u::vs').toArray:=by
      rw [dif_neg (by simp)]
     rw [e2];refine⟨.tup _ _ (by simpa using b1) (fun i d z c1 c2=>?_),.tup _ _ _ fun i d z c1 c2=>?_⟩
     .rw [bP,cU] at c1;obtain⟨x',c1,rfl⟩:=c1;exact(each i x' z c1 (by simpa using c2)).1
     rw [bP,cU] at c1;obtain⟨x',c1,rfl⟩:=c1;simpa using(each i x' z c1 (by simpa using c2)).2.2
    have:eP [D.ofList (xs.map (·.1))] t= .any:=by
     simp only [eP];rw [gP (by simp;omega)]
    rw [this];exact⟨.any _,.flat _ _ _ rfl⟩
   exact(hok''.obj n b cs h1 h2).keep (fun _ _ _ h=>h) (fun _ _ h=>h) fun b q hb=>⟨rfl,fun _ h=>h,by simp [hb,xA]⟩
  exact hq.elim
 have out:LeavesInM Fence.wide 0 P fn a.tmps (fun e w'=>∃r σ' x g',e=Ending.returned x/\Q r σ'/\g'.bl= []/\Fr w g w' g'/\Ok w' g' (St.ofRes r σ') (fun t=>if t=0 then x else undef)) a.defers .returning w1:=by
  rcases hf1.mks with h0 | ⟨D,hB,h0,hD,hX⟩
  .rw [h0];exact main w1 hf1.toFr hok1
  rw [h0];refine⟨by simp,.inl ⟨D,_,rfl,run_takeDeferred hD,main _ ⟨hf1.os,hf1.tape,hf1.output,by simpa [World.putObj] using hf1.size,fun b hb hx=>?_,hf1.mono,hf1.bs⟩ (hok1.putObj hD rfl hX)⟩⟩;obtain⟨c1,c2,c3⟩:=hf1.keep b hb hx;exact⟨(World.putObj_at (by omega)).trans c1,c2,c3⟩
 cases e with
 | normal=>exact out
 | ret=>exact out
 | _=>exact hexit.elim
end
section
variable {P:Program} {c:Cfg} {st:St} {K:St->Prop}
def oL:Nat->List D->List (Nat×Slot)
 | _, []=> []
 | i,d::l=>(i,.d d)::oL (i+1) l
theorem Ca(l:List D):eP l=dM (oL 0 l):=by
 funext t;have:∀(l:List D) (i:Nat),(∀u,dM (oL i l) (i+u)=eP l u)/\∀u,u<i->dM (oL i l) u= .any:=by
  intro l;induction l with
  | nil=>intro i;exact⟨fun u=>by simp [oL,dM,eP],fun u _=>rfl⟩
  | cons d l ih =>
   intro i;refine⟨fun u=>?_,fun u hu=>?_⟩
   .simp only [oL,dM]
    match u with
    | 0=>simp [eP]
    | u+1=>
     rw [aG (by omega)];have:=(ih (i+1)).1 u;rw [show i+(u+1)=i+1+u by omega,this];simp [eP]
   simp only [oL,dM];rw [aG (by omega)];exact(ih (i+1)).2 u (by omega)
 have:=(this l 0).1 t;rw [dT] at this;exact this.symm
theorem aB5 {f : FuncId} {fn : Func} {cd : Code} {args : List D} {σ : List (List D)} {Q : D → List (List D) → Prop} {n : Nat} {rs : List ResultVar} (hf : P.funcs[f]? = some fn) (hb : fn.body = some cd) (hname : (fn.name != "runtime.NumGoroutine") = true)
  (hn:fn.ntmps=n) (hrs:fn.results=rs.toArray) (hle:args.length<=n)
  (h:AWP P cd (aT P rs Q) (St.mk' n (oL 0 args) [] σ)):Ct P f args σ Q:=by
 refine aLi hf hb hname ?_;rw [hn,hrs,Ca,show args.length+(n - args.length)=n by omega];exact h
theorem Qj(n:Nat)(l:List (Nat×Slot))(loc obj:List (List D)):(St.mk' n l loc obj).n=n:=rfl
theorem Ao(n:Nat)(l:List (Nat×Slot))(loc obj:List (List D)):(St.mk' n l loc obj).env=dM l:=rfl
theorem Aj(n:Nat)(l:List (Nat×Slot))(loc obj:List (List D)):(St.mk' n l loc obj).loc=loc:=rfl
theorem An(n:Nat)(l:List (Nat×Slot))(loc obj:List (List D)):(St.mk' n l loc obj).obj=obj:=rfl
theorem oM(a:Nat)(s:Slot)(r:List (Nat×Slot))(t:Nat):dM ((a,s)::r) t=if t=a then s else dM r t:=rfl
theorem Dz(t:Nat):dM [] t= .any:=rfl
theorem aGc(n:Nat)(l:List (Nat×Slot))(loc obj:List (List D))(t:Nat)(s:Slot):(St.mk' n l loc obj).set t s=St.mk' n ((t,s)::l) loc obj:=rfl
theorem aC6(t:Nat)(s:Slot):st.put (some t) s=st.set t s:=rfl
theorem aAz(s:Slot):st.put none s=st:=rfl
theorem Yb(n:Nat)(l:List (Nat×Slot))(loc obj loc':List (List D)):({ St.mk' n l loc obj with loc:=loc' } :St)=St.mk' n l loc' obj:=rfl
theorem aBp(n:Nat)(l:List (Nat×Slot))(loc obj obj':List (List D)):({ St.mk' n l loc obj with obj:=obj' } :St)=St.mk' n l loc obj':=rfl
theorem Sd(t:Nat):st.rdS (.tmp t)=st.env t:=rfl
theorem Va(v:Value):st.rdS (.const v)= .d (D.ofV v):=rfl
theorem aA5(f:FuncId):st.rdS (.func f)= .d (.clo (.func f) [] []):=rfl
def Slot.toD:Slot->D
 | .d x=>x
 | .lref _ _=> .any
theorem aKk(t:Nat):st.rd (.tmp t)=(st.env t).toD:=by
 unfold St.rd;rw [Sd];cases st.env t <;> rfl
theorem aDw(v:Value):st.rd (.const v)=D.ofV v:=rfl
theorem tF(f:FuncId):st.rd (.func f)= .clo (.func f) [] []:=rfl
theorem aK7(d:D):(Slot.d d).toD=d:=rfl
theorem aDz(n o:Nat):(Slot.lref n o).toD= .any:=rfl
theorem aF9(k:IntKind)(n:Int):D.ofV (.int k n)= .v (.int k n):=rfl
theorem aDr(b:Bool):D.ofV (.bool b)= .v (.bool b):=rfl
theorem Nm(s:ByteArray):D.ofV (.string s)= .v (.string s):=rfl
theorem aEx:D.ofV (.slice none 0 0)= .sl true []:=rfl
theorem aFq:D.ofV (.pointer none)= .v (.pointer none):=rfl
theorem aFy(x:Value):D.strip (.v x)= .v x:=rfl
theorem aAy(o:Bool)(es:List D):D.strip (.sl o es)= .sl false es:=rfl
theorem Tk(cs:List D):D.strip (.agg cs)= .agg (cs.map D.s1):=rfl
theorem Te(cs:List D):D.strip (.adr cs)= .adr cs:=rfl
theorem Tu(n o:Nat):D.strip (.ref n o)= .ref n o:=rfl
theorem Ve:D.strip .any= .any:=rfl
theorem Uy(f:Go.Fn)(a b:List D):D.strip (.clo f a b)= .clo f a b:=rfl
theorem aNu(x:Value):D.s2 (.v x)= .v x:=rfl
theorem aLj(o:Bool)(es:List D):D.s2 (.sl o es)= .sl false es:=rfl
theorem aI1(cs:List D):D.s2 (.agg cs)= .agg (cs.map D.s1):=rfl
theorem aKg(cs:List D):D.s2 (.adr cs)= .adr cs:=rfl
theorem aKl(n o:Nat):D.s2 (.ref n o)= .ref n o:=rfl
theorem aI0:D.s2 .any= .any:=rfl
theorem aNg(x:Value):D.s1 (.v x)= .v x:=rfl
theorem aL1(o:Bool)(es:List D):D.s1 (.sl o es)= .sl false es:=rfl
theorem aJs(cs:List D):D.s1 (.adr cs)= .adr cs:=rfl
theorem aKp(n o:Nat):D.s1 (.ref n o)= .ref n o:=rfl
theorem aJ7:D.s1 .any= .any:=rfl
theorem aFa(x:Value):D.plain (.v x)=true:=rfl
theorem aCy(o:Bool)(es:List D):D.plain (.sl o es)=true:=rfl
theorem Ww(cs:List D):D.plain (.agg cs)=true:=rfl
theorem Ud(cs:List D):D.plain (.adr cs)=true:=rfl
theorem Uz(n o:Nat):D.plain (.ref n o)=true:=rfl
theorem Ua(f:Go.Fn)(a b:List D):D.plain (.clo f a b)=true:=rfl
theorem Xh:D.plain .any=true:=rfl
theorem aGn(x:Value):D.solid (.v x)=true:=rfl
theorem Xy(o:Bool)(es:List D):D.solid (.sl o es)=true:=rfl
theorem Um(cs:List D):D.solid (.agg cs)=true:=rfl
theorem Tf(cs:List D):D.solid (.adr cs)=true:=rfl
theorem Vw(n o:Nat):D.solid (.ref n o)=true:=rfl
theorem Ut(f:Go.Fn)(a b:List D):D.solid (.clo f a b)=true:=rfl
theorem Yg(x:Value):D.ncells (.v x)=1:=rfl
theorem Wf(o:Bool)(es:List D):D.ncells (.sl o es)=1:=rfl
theorem Ng(cs:List D):D.ncells (.agg cs)=cs.length:=rfl
theorem Pm(n o:Nat):D.ncells (.ref n o)=1:=rfl
theorem aFr(x:Value):D.cells (.v x)= [.v x]:=rfl
theorem aDq(o:Bool)(es:List D):D.cells (.sl o es)= [.sl o es]:=rfl
theorem Tl(cs:List D):D.cells (.agg cs)=cs:=rfl
theorem Td(n o:Nat):D.cells (.ref n o)= [.ref n o]:=rfl
def Le(d:Option Tmp)(st:St):Prop:=match d with | some d=>d<st.n | none=>True
theorem fJ(all:List Oper):lT P c all [] st K=K st:=rfl
theorem Dv(all r:List Oper)(d:Option Tmp)(op:Op)(ty:TypeId)(pos:String)(after:Array Edge)(j:Nat)(want:Bool):lT P c all (⟨d,op,ty,pos,after,some (j,want)⟩::r) st K=
  match aY all j with
   | some t=>match zO (st.env t) want with
    | some b=>(b=want->Le d st/\gK P c d op st fun st'=>lT P c all r st' K)/\(b= !want->Le d st/\lT P c all r (st.put d .und) K)
    | none=>False
   | none=>False:=rfl
theorem Xs(d:Nat)(n:Nat)(l:List (Nat×Slot))(loc obj:List (List D)):Le (some d) (St.mk' n l loc obj)=(d<n):=rfl
theorem Yw:Le none st=True:=rfl
end
end Go.Vm
