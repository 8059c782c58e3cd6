import Derived.Test.YtbdjepeabjangaaGreatVm15
set_option linter.all false
namespace Go.Vm
open Go
variable {tmps:Array Value}
section
variable {P:Program}
def Ee (P : Program) (s : St) : ResultVar -> Option (D × Option Holder)
 | .tmp t=>match s.env t with
  | .d (.tup _)=>none
  | .d d=>some (d,some (.slot t))
  | .lref _ _=>none
 | .cell a t => match fI P t, s.env a with
  | some (ag, n), .lref m off => match s.loc[m]? with
   | some cs=>match uH ag n (cs.drop off)with
    | some y=>if ag=true/\off=0 then some (y,some (.loc m))else some (y.s2,none)
    | none=>none
   | none=>none
  | _,_=>none
def Ap(P:Program)(s:St):List ResultVar->Option (List (D×Option Holder))
 | []=>some []
 | r::rs=>match Ee P s r,Ap P s rs with
  | some x,some xs=>some (x::xs)
  | _,_=>none
def D.ofList:List D->D
 | [d]=>d
 | ds=> .tup ds
def Ar(hs:List (Option Holder)):kN->Option kN
 | (.obj n,q)=>some (.obj n,q)
 | (h,q)=>(hs.findIdx? (· ==some h)).map fun i=>(.slot 0,(if hs.length=1 then [] else [i])++q)
def Mn(hs:List (Option Holder)):Bool:=decide (hs.filterMap id).Nodup
def aP(P:Program)(rs:List ResultVar)(Q:D->List (List D)->Prop):Exit->St->Prop:=fun e s=>
 (match e with | .normal | .ret=>True | _=>False)/\match Ap P s rs with
  | some xs=>Mn (xs.map (·.2))=true/\Q (D.ofList (xs.map (·.1))) s.obj
  | none=>False
theorem tQ:∀(hs:List (Option Holder)) (i:Nat) (h:Holder),(hs.filterMap id).Nodup->hs[i]?=some (some h)->hs.findIdx? (· ==some h)=some i
 | [],i,h,_,e=>by simp at e
 | x :: hs, i, h, hn, e => by
  match i with
  | 0=>
   simp only [pG,aV] at e;simp [uZ,e]
  | i + 1 =>
   have e':hs[i]?=some (some h):=by simpa using e
   have hne:x≠some h:=by
    intro ex;subst ex;have hmem:h∈hs.filterMap id:=lT.2 ⟨some h,aW e',rfl⟩;simp only [rN,id] at hn;exact(oU.1 hn).1 hmem
   have hn':(hs.filterMap id).Nodup:=by
    simp only [rN] at hn;split at hn
    .exact hn
    exact(oU.1 hn).2
   have ih:=tQ hs i h hn' e';simp [uZ,hne,ih]
def aD9(tmps:Array Value):ResultVar->Sem Value
 | .tmp t=>pure (tmps.getD t undef)
 | .cell a t=>do loadVar t (<- asAddr (tmps.getD a undef))
def aCc(w:World)(g:Gh)(d:D)(v:Value):Option Holder->Prop
 | some hd=>(∀n,hd≠ .obj n)/\Own w g.M g.bs g.X hd [] d v
 | none=>∀X h p,Own w g.M g.bs X h p d v
theorem Mc {w : World} {g : Gh} {s : St} (hok : Ok w g s (cC tmps)) {r : ResultVar} {d : D} {ho : Option Holder} (h : Ee P s r = some (d, ho)) :
  ∃v,(aD9 tmps r).run P w= .ok v w/\R g.M g.bs d v/\(∀cs,d≠ .tup cs)/\aCc w g d v ho:=by
 cases r with
 | tmp t=>
  have hs:=hok.slot t;simp only [Ee] at h;split at h
  .cases h
  .rename_i y hne hy;simp only [aV,gC] at h;obtain⟨rfl,rfl⟩:=h;rw [hy] at hs;exact⟨_,rfl,hs.1,fun cs e=>hne cs e,by simp,hs.2⟩
  cases h
 | cell a t =>
  simp only [Ee] at h;split at h
  .rename_i ag n m off ht ha;split at h
   .rename_i cs hcs;split at h
    .rename_i y hld;obtain⟨b,hb,hv⟩:=hok.rdL (x:= .tmp a) ha;have hv':tmps.getD a undef= .pointer (some ⟨b,off,none⟩):=hv;have hbx:=hok.loc m b cs hb hcs;obtain⟨v,hrun,hr⟩:=tP (P:=P) (Ba hbx off) ht hld;have hnt:=rA (Ba hbx off) hld;have hrun':(aD9 tmps (.cell a t)).run P w= .ok v w:=by
      simp only [aD9,hv'];simp [asAddr,hrun]
     split at h
     .rename_i hc;simp only [aV,gC] at h;obtain⟨rfl,rfl⟩:=h;obtain⟨rfl,rfl⟩:=hc;refine⟨v,hrun',hr,hnt,by simp,?_⟩;rcases hbx with rfl | ⟨cur,E,h1,h2,h3,h4,h5⟩
      .simp only [uH,aO,rS,List.take_nil] at hld;split at hld
       .simp only [aV] at hld;subst hld;cases hr with
        | agg _ vs hl hrr h1'=>exact .agg _ _ vs fun i e c a1 a2=>by simp at a1
       cases hld
      simp only [uH,aO,rS] at hld;split at hld
      .simp only [aV] at hld;subst hld;cases hr with
       | agg _ vs hl hrr h1' =>
        refine .agg _ _ vs fun i e c a1 a2=>?_;rw [eJ] at a1;split at a1
        .rename_i hin
         -- the value's cells are the box's
         have hcu:cur[i]?=some c:=by
          obtain⟨td,ti,i1,i2,i3,i4⟩:=mJ ht;have e1:∀(j:Nat) (x:Value),(cur.toList.take n)[j]?=some x->w.cell? ((⟨b,0,none⟩:Addr).add j)=some x:=by
           intro j x hj;rw [Addr.add_none,eA,cell_of_row w b j cur E (0,0) h1];rw [eJ] at hj;split at hj
           .rw [dA] at hj;exact hj
           cases hj
          have hlen:(cur.toList.take n).length=n:=by
           rw [bF,bP,h2];omega
          have hl2:=run_loadCells_list (P:=P) w ⟨b,0,none⟩ (cur.toList.take n) e1;rw [hlen] at hl2;have:(loadVar t ⟨b,0,none⟩).run P w= .ok (.agg (cur.toList.take n).toArray) w:=by simp [loadVar,lV i1,i3,bQ i2,i4,hl2]
          rw [this] at hrun;simp only [Result.ok.injEq,pM,Value.agg.injEq] at hrun;rw [<- hrun,eZ,eJ,aR hin,dA] at a2;exact a2
         exact(h5 i e c a1 hcu).2.1
        cases a1
      cases hld
     simp only [aV,gC] at h;obtain⟨rfl,rfl⟩:=h;refine⟨v,hrun',hr.s2,?_,fun X h p=>xQ hr hnt⟩;intro ds e;cases y <;> simp [D.s2,D.s1] at e;exact absurd rfl (hnt _)
    cases h
   cases h
  cases h
theorem zF {w:World} {g:Gh} {s:St} (hok:Ok w g s (cC tmps)):∀(rs:List ResultVar) (xs:List (D×Option Holder)),Ap P s rs=some xs->∃vs:List Value,vs.length=xs.length/\
  (rs.mapM (aD9 tmps)).run P w= .ok vs w/\
  ∀(i:Nat) (x:D×Option Holder) (v:Value),xs[i]?=some x->vs[i]?=some v->R g.M g.bs x.1 v/\(∀cs,x.1≠ .tup cs)/\aCc w g x.1 v x.2
 | [],xs,h=>by
  simp only [Ap,aV] at h;subst h;exact⟨[],rfl,rfl,fun i x v h=>by simp at h⟩
 | r :: rs, xs, h => by
  simp only [Ap] at h;split at h
  .rename_i x ys h1 h2;simp only [aV] at h;subst h;obtain⟨d,ho⟩:=x;obtain⟨v,a1,a2,a3,a4⟩:=Mc hok h1;obtain⟨vs,b1,b2,b3⟩:=zF hok rs ys h2;refine⟨v::vs,by simp [b1],?_,fun i x u c1 c2=>?_⟩
   .rw [List.mapM_cons,Sem.run_bind];rw [a1,Result.andThen_ok,Sem.run_bind,b2];rfl
   match i with
   | 0=>simp at c1 c2;subst c1;subst c2;exact⟨a2,a3,a4⟩
   | i+1=>exact b3 i x u (by simpa using c1) (by simpa using c2)
  cases h
theorem aPt {f : FuncId} {fn : Func} {c : Code} {args : List D} {σ : List (List D)} {Q : D → List (List D) → Prop} (hf : P.funcs[f]? = some fn) (hb : fn.body = some c) (hname : (fn.name != "runtime.NumGoroutine") = true)
  (h:AWP P c (aP P fn.results.toList Q) { n:=args.length+(fn.ntmps - args.length),env:=fB args,loc:= [],obj:=σ }):Ct P f args σ Q:=by
 refine⟨by simp only [xV,hf,hb];simp only [hname];rfl,fun w g vs hsz hbl hok=>?_⟩;refine(callsIn_wide (n:=0)).1 (callsIn_of_wp_marks hf hb trivial ?_);have hok':Ok w g { n:=args.length+(fn.ntmps - args.length),env:=fB args,loc:= [],obj:=σ } (cC (vs++Array.replicate (fn.ntmps - vs.size) undef)):=by
  refine⟨hok.mem,hok.xlt,fun t=>?_,hok.ll,hok.loc,hok.ol,hok.obj⟩;have hs:=hok.slot t;have e:(St.ofArgs args σ).env t=fB args t:=rfl;rw [e] at hs;show SlotOk w g t (fB args t) _
  by_cases ht:t<vs.size
  .have:cC (vs++Array.replicate (fn.ntmps - vs.size) undef) t=cC vs t:=by
    simp [cC,uV,ht]
   rw [this];exact hs
  have:fB args t= .any:=by
   simp only [fB];rw [gS (by omega)]
  rw [this];exact⟨.any _,.flat _ _ _ rfl⟩
 refine wpIn_mono (F:=fR none) (h w g w g _ (.of (Fr.refl w g)) hok' (by simp [hsz])) ?_;rintro e a w1 ⟨hd,st',g',⟨hexit,hq⟩,hf1,hok1,hn'⟩;have main:∀w':World,Fr w g w' g'->Ok w' g' st' (cC a.tmps)->∃v,(results fn a.tmps).run P w'= .ok v w'/\∃r σ' x g',Ending.returned v= .returned x/\Q r σ'/\g'.bl= []/\Fr w g w' g'/\Ok w' g' (St.ofRes r σ') (fun t=>if t=0 then x else undef):=by
  intro w' hf' hok'';split at hq
  .rename_i xs hxs;obtain⟨hh,hQ⟩:=hq;obtain⟨vs',b1,b2,b3⟩:=zF hok'' _ xs hxs;have hnd:((xs.map (·.2)).filterMap id).Nodup:=by simpa [Mn] using hh
   have hrun:(results fn a.tmps).run P w'= .ok (if h:vs'.toArray.size=1 then vs'.toArray[0] else .tuple vs'.toArray) w':=by
    have e0:results fn a.tmps=(do let vs <- fn.results.mapM (aD9 a.tmps);pure (if h:vs.size=1 then vs[0] else .tuple vs)):=by
     unfold results;congr 1
    rw [e0,Sem.run_bind,Jc,Sem.run_map,b2];rfl
   refine⟨_,hrun,D.ofList (xs.map (·.1)),st'.obj,_, { M:=g'.M,X:=fun b=>(g'.X b).bind (Ar (xs.map (·.2))),bl:= [],bs:=g'.bs },rfl,hQ,rfl,?_,?_⟩
   .exact⟨hf'.os,hf'.tape,hf'.output,hf'.size,fun b hb hx=>by
     obtain⟨c1,c2,c3⟩:=hf'.keep b hb hx;exact⟨c1,by simp [c2],c3⟩,hf'.mono,hf'.bs⟩
   refine⟨hok''.mem,fun b t hb=>?_,fun t=>?_,rfl,fun n b cs h1 h2=>by simp at h1,hok''.ol,fun n b cs h1 h2=>?_⟩
   .simp only [kF] at hb;obtain⟨t',hb,_⟩:=hb;exact hok''.xlt b t' hb
   .show SlotOk w' _ t (fB [D.ofList (xs.map (·.1))] t) _
    by_cases ht:t=0
    .subst ht;simp only [fB,pG,aO]
     -- each result with its rights
     have each:∀(i:Nat) (x:D×Option Holder) (v:Value),xs[i]?=some x->vs'[i]?=some v->R g'.M g'.bs x.1 v/\(∀cs,x.1≠ .tup cs)/\Own w' g'.M g'.bs (fun b=>(g'.X b).bind (Ar (xs.map (·.2)))) (.slot 0) (if(xs.map (·.2)).length=1 then [] else [i]) x.1 v:=by
      intro i x v c1 c2;obtain⟨d1,d2,d3⟩:=b3 i x v c1 c2;refine⟨d1,d2,?_⟩;cases hx2:x.2 with
      | none=>rw [hx2] at d3;exact d3 _ _ _
      | some hd=>
       rw [hx2] at d3;refine d3.2.move (fun _ _ _ h=>h) (fun _ _ h=>h) _ fun b q hb=>⟨rfl,fun _ h=>h,?_⟩;have hi:(xs.map (·.2))[i]?=some (some hd):=by rw [cB,c1,fA,hx2]
       have hidx:=tQ _ i hd hnd hi;simp only [aK] at hb;simp only [hb,rJ];have hno:=d3.1;cases hd with
       | obj n=>exact absurd rfl (hno n)
       | slot t=>simp only [Ar,hidx,fA]
       | loc t=>simp only [Ar,hidx,fA]
     rcases xs with _ | ⟨x,_ | ⟨y,xs⟩⟩
     .rcases vs' with _ | ⟨v,vs'⟩
      .simp only [D.ofList,nI];exact⟨.tup [] #[] rfl (fun i d x h=>by simp at h),.tup _ [] #[] (fun i d x h=>by simp at h)⟩
      simp at b1
     .rcases vs' with _ | ⟨v,_ | ⟨u,vs'⟩⟩
      .simp at b1
      .obtain⟨d1,d2,d3⟩:=each 0 x v rfl rfl;have d3':Own w' g'.M g'.bs (fun b=>(g'.X b).bind (Ar [x.2])) (.slot 0) [] x.1 v:=by simpa using d3
       exact⟨d1,d3'⟩
      simp at b1
     rcases vs' with _ | ⟨v,_ | ⟨u,vs'⟩⟩
     .simp at b1
     .simp at b1
     have hlen:((x::y::xs).map (·.2)).length≠1:=by simp
     simp only [aH hlen] at each;have e1:D.ofList ((x::y::xs).map (·.1))= .tup ((x::y::xs).map (·.1)):=rfl;rw [e1];have e2:(if h:(v::u::vs').toArray.size=1 then(v::u::vs').toArray[0] else Value.tuple (v::u::vs').toArray)= .tuple (v::u::vs').toArray:=by
      rw [dif_neg (by simp)]
     rw [e2];refine⟨.tup _ _ (by simpa using b1) (fun i d z c1 c2=>?_),.tup _ _ _ fun i d z c1 c2=>?_⟩
     .rw [cB,dG] at c1;obtain⟨x',c1,rfl⟩:=c1;exact(each i x' z c1 (by simpa using c2)).1
     rw [cB,dG] at c1;obtain⟨x',c1,rfl⟩:=c1;simpa using(each i x' z c1 (by simpa using c2)).2.2
    have:fB [D.ofList (xs.map (·.1))] t= .any:=by
     simp only [fB];rw [gS (by simp;omega)]
    rw [this];exact⟨.any _,.flat _ _ _ rfl⟩
   exact(hok''.obj n b cs h1 h2).keep (fun _ _ _ h=>h) (fun _ _ h=>h) fun b q hb=>⟨rfl,fun _ h=>h,by simp [hb,Ar]⟩
  exact hq.elim
 have out:LeavesInM Fence.wide 0 P fn a.tmps (fun e w'=>∃r σ' x g',e=Ending.returned x/\Q r σ'/\g'.bl= []/\Fr w g w' g'/\Ok w' g' (St.ofRes r σ') (fun t=>if t=0 then x else undef)) a.defers .returning w1:=by
  rcases hf1.mks with h0 | ⟨D,hB,h0,hD,hX⟩
  .rw [h0];exact main w1 hf1.toFr hok1
  rw [h0];refine⟨by simp,.inl ⟨D,_,rfl,run_takeDeferred hD,main _ ⟨hf1.os,hf1.tape,hf1.output,by simpa [World.putObj] using hf1.size,fun b hb hx=>?_,hf1.mono,hf1.bs⟩ (hok1.putObj hD rfl hX)⟩⟩;obtain⟨c1,c2,c3⟩:=hf1.keep b hb hx;exact⟨(World.putObj_at (by omega)).trans c1,c2,c3⟩
 cases e with
 | normal=>exact out
 | ret=>exact out
 | _=>exact hexit.elim
end
section
variable {P:Program} {c:Cfg} {st:St} {K:St->Prop}
def qE:Nat->List D->List (Nat×Slot)
 | _, []=> []
 | i,d::l=>(i,.d d)::qE (i+1) l
theorem Ep(l:List D):fB l=dR (qE 0 l):=by
 funext t;have:∀(l:List D) (i:Nat),(∀u,dR (qE i l) (i+u)=fB l u)/\∀u,u<i->dR (qE i l) u= .any:=by
  intro l;induction l with
  | nil=>intro i;exact⟨fun u=>by simp [qE,dR,fB],fun u _=>rfl⟩
  | cons d l ih =>
   intro i;refine⟨fun u=>?_,fun u hu=>?_⟩
   .simp only [qE,dR]
    match u with
    | 0=>simp [fB]
    | u+1=>
     rw [aH (by omega)];have:=(ih (i+1)).1 u;rw [show i+(u+1)=i+1+u by omega,this];simp [fB]
   simp only [qE,dR];rw [aH (by omega)];exact(ih (i+1)).2 u (by omega)
 have:=(this l 0).1 t;rw [eA] at this;exact this.symm
theorem aE5 {f : FuncId} {fn : Func} {cd : Code} {args : List D} {σ : List (List D)} {Q : D → List (List D) → Prop} {n : Nat} {rs : List ResultVar} (hf : P.funcs[f]? = some fn) (hb : fn.body = some cd) (hname : (fn.name != "runtime.NumGoroutine") = true)
  (hn:fn.ntmps=n) (hrs:fn.results=rs.toArray) (hle:args.length<=n)
  (h:AWP P cd (aP P rs Q) (St.mk' n (qE 0 args) [] σ)):Ct P f args σ Q:=by
 refine aPt hf hb hname ?_;rw [hn,hrs,Ep,show args.length+(n - args.length)=n by omega];exact h
theorem Us(n:Nat)(l:List (Nat×Slot))(loc obj:List (List D)):(St.mk' n l loc obj).n=n:=rfl
theorem Df(n:Nat)(l:List (Nat×Slot))(loc obj:List (List D)):(St.mk' n l loc obj).env=dR l:=rfl
theorem Dj(n:Nat)(l:List (Nat×Slot))(loc obj:List (List D)):(St.mk' n l loc obj).loc=loc:=rfl
theorem Dq(n:Nat)(l:List (Nat×Slot))(loc obj:List (List D)):(St.mk' n l loc obj).obj=obj:=rfl
theorem qN(a:Nat)(s:Slot)(r:List (Nat×Slot))(t:Nat):dR ((a,s)::r) t=if t=a then s else dR r t:=rfl
theorem Hz(t:Nat):dR [] t= .any:=rfl
theorem aIr(n:Nat)(l:List (Nat×Slot))(loc obj:List (List D))(t:Nat)(s:Slot):(St.mk' n l loc obj).set t s=St.mk' n ((t,s)::l) loc obj:=rfl
theorem aE0(t:Nat)(s:Slot):st.put (some t) s=st.set t s:=rfl
theorem aDq(s:Slot):st.put none s=st:=rfl
theorem aEu(n:Nat)(l:List (Nat×Slot))(loc obj loc':List (List D)):({ St.mk' n l loc obj with loc:=loc' } :St)=St.mk' n l loc' obj:=rfl
theorem aFh(n:Nat)(l:List (Nat×Slot))(loc obj obj':List (List D)):({ St.mk' n l loc obj with obj:=obj' } :St)=St.mk' n l loc obj':=rfl
theorem Uq(t:Nat):st.rdS (.tmp t)=st.env t:=rfl
theorem aBl(v:Value):st.rdS (.const v)= .d (D.ofV v):=rfl
theorem aGu(f:FuncId):st.rdS (.func f)= .d (.clo (.func f) [] []):=rfl
def Slot.toD:Slot->D
 | .d x=>x
 | .lref _ _=> .any
theorem aPi(t:Nat):st.rd (.tmp t)=(st.env t).toD:=by
 unfold St.rd;rw [Uq];cases st.env t <;> rfl
theorem aG7(v:Value):st.rd (.const v)=D.ofV v:=rfl
theorem vZ(f:FuncId):st.rd (.func f)= .clo (.func f) [] []:=rfl
theorem aQj(d:D):(Slot.d d).toD=d:=rfl
theorem aHc(n o:Nat):(Slot.lref n o).toD= .any:=rfl
theorem aJ2(k:IntKind)(n:Int):D.ofV (.int k n)= .v (.int k n):=rfl
theorem aGf(b:Bool):D.ofV (.bool b)= .v (.bool b):=rfl
theorem Sf(s:ByteArray):D.ofV (.string s)= .v (.string s):=rfl
theorem aIb:D.ofV (.slice none 0 0)= .sl true []:=rfl
theorem aI7:D.ofV (.pointer none)= .v (.pointer none):=rfl
theorem aLp(x:Value):D.strip (.v x)= .v x:=rfl
theorem aC3(o:Bool)(es:List D):D.strip (.sl o es)= .sl false es:=rfl
theorem aB0(cs:List D):D.strip (.agg cs)= .agg (cs.map D.s1):=rfl
theorem aAi(cs:List D):D.strip (.adr cs)= .adr cs:=rfl
theorem Zp(n o:Nat):D.strip (.ref n o)= .ref n o:=rfl
theorem aA6:D.strip .any= .any:=rfl
theorem Zv(f:Go.Fn)(a b:List D):D.strip (.clo f a b)= .clo f a b:=rfl
theorem aS4(x:Value):D.s2 (.v x)= .v x:=rfl
theorem aPv(o:Bool)(es:List D):D.s2 (.sl o es)= .sl false es:=rfl
theorem aOd(cs:List D):D.s2 (.agg cs)= .agg (cs.map D.s1):=rfl
theorem aO8(cs:List D):D.s2 (.adr cs)= .adr cs:=rfl
theorem aOc(n o:Nat):D.s2 (.ref n o)= .ref n o:=rfl
theorem aOi:D.s2 .any= .any:=rfl
theorem aSv(x:Value):D.s1 (.v x)= .v x:=rfl
theorem aQ3(o:Bool)(es:List D):D.s1 (.sl o es)= .sl false es:=rfl
theorem aPj(cs:List D):D.s1 (.adr cs)= .adr cs:=rfl
theorem aNn(n o:Nat):D.s1 (.ref n o)= .ref n o:=rfl
theorem aNa:D.s1 .any= .any:=rfl
theorem aIz(x:Value):D.plain (.v x)=true:=rfl
theorem aDc(o:Bool)(es:List D):D.plain (.sl o es)=true:=rfl
theorem aA8(cs:List D):D.plain (.agg cs)=true:=rfl
theorem aBz(cs:List D):D.plain (.adr cs)=true:=rfl
theorem Zy(n o:Nat):D.plain (.ref n o)=true:=rfl
theorem Yo(f:Go.Fn)(a b:List D):D.plain (.clo f a b)=true:=rfl
theorem Yy:D.plain .any=true:=rfl
theorem aJk(x:Value):D.solid (.v x)=true:=rfl
theorem aHr(o:Bool)(es:List D):D.solid (.sl o es)=true:=rfl
theorem Zl(cs:List D):D.solid (.agg cs)=true:=rfl
theorem aAc(cs:List D):D.solid (.adr cs)=true:=rfl
theorem aAl(n o:Nat):D.solid (.ref n o)=true:=rfl
theorem aAr(f:Go.Fn)(a b:List D):D.solid (.clo f a b)=true:=rfl
theorem aFd(x:Value):D.ncells (.v x)=1:=rfl
theorem Yw(o:Bool)(es:List D):D.ncells (.sl o es)=1:=rfl
theorem Tg(cs:List D):D.ncells (.agg cs)=cs.length:=rfl
theorem Uh(n o:Nat):D.ncells (.ref n o)=1:=rfl
theorem aJp(x:Value):D.cells (.v x)= [.v x]:=rfl
theorem aDu(o:Bool)(es:List D):D.cells (.sl o es)= [.sl o es]:=rfl
theorem Yu(cs:List D):D.cells (.agg cs)=cs:=rfl
theorem aA5(n o:Nat):D.cells (.ref n o)= [.ref n o]:=rfl
def Ot(d:Option Tmp)(st:St):Prop:=match d with | some d=>d<st.n | none=>True
theorem fS(all:List Oper):nE P c all [] st K=K st:=rfl
theorem Jm(all r:List Oper)(d:Option Tmp)(op:Op)(ty:TypeId)(pos:String)(after:Array Edge)(j:Nat)(want:Bool):nE P c all (⟨d,op,ty,pos,after,some (j,want)⟩::r) st K=
  match aQ all j with
   | some t=>match Ca (st.env t) want with
    | some b=>(b=want->Ot d st/\gV P c d op st fun st'=>nE P c all r st' K)/\(b= !want->Ot d st/\nE P c all r (st.put d .und) K)
    | none=>False
   | none=>False:=rfl
theorem aEv(d:Nat)(n:Nat)(l:List (Nat×Slot))(loc obj:List (List D)):Ot (some d) (St.mk' n l loc obj)=(d<n):=rfl
theorem aE7:Ot none st=True:=rfl
end
end Go.Vm
