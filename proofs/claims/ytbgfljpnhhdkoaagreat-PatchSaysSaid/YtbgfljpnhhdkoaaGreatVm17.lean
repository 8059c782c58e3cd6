import Derived.Test.YtbgfljpnhhdkoaaGreatVm15
set_option linter.all false
namespace Go.Vm
open Go
section
variable {P:Program}
def zV (P : Program) (s : St) : ResultVar → Option (D × Option Holder)
 | .tmp t=>match s.env t with
  | .d (.tup _)=>none
  | .d d=>some (d,some (.slot t))
  | .lref _ _=>none
 | .cell a t => match iY P t, s.env a with
  | some (ag, n), .lref m off => match s.loc[m]? with
   | some cs=>match qP ag n (cs.drop off)with
    | some y=>if ag=true∧off=0 then some (y,some (.loc m))else some (y.s2,none)
    | none=>none
   | none=>none
  | _,_=>none
def wG(P:Program)(s:St):List ResultVar→Option (List (D×Option Holder))
 | []=>some []
 | r::rs=>match zV P s r,wG P s rs with
  | some x,some xs=>some (x::xs)
  | _,_=>none
def D.ofList:List D→D
 | [d]=>d
 | ds=> .tup ds
def uW(hs:List (Option Holder)):iJ→Option iJ
 | (.obj n,q)=>some (.obj n,q)
 | (h,q)=>(hs.findIdx? (· ==some h)).map fun i=>(.slot 0,(if hs.length=1 then [] else [i])++q)
def Gb(hs:List (Option Holder)):Bool:=decide (hs.filterMap id).Nodup
def aJ(P:Program)(rs:List ResultVar)(Q:D→List (List D)→Prop):Exit→St→Prop:=fun e s=>
 (match e with | .normal | .ret=>True | _=>False)∧match wG P s rs with
  | some xs=>Gb (xs.map (·.2))=true∧Q (D.ofList (xs.map (·.1))) s.obj
  | none=>False
theorem qB:∀(hs:List (Option Holder)) (i:Nat) (h:Holder),(hs.filterMap id).Nodup→hs[i]?=some (some h)→hs.findIdx? (· ==some h)=some i
 | [],i,h,_,e=>by simp at e
 | x :: hs, i, h, hn, e => by
  match i with
  | 0=>
   simp only [List.getElem?_cons_zero,Option.some.injEq] at e;simp [List.findIdx?_cons,e]
  | i + 1 =>
   have e':hs[i]?=some (some h):=by simpa using e
   have hne:x≠some h:=by
    intro ex;subst ex;have hmem:h∈hs.filterMap id:=List.mem_filterMap.2 ⟨some h,List.mem_of_getElem? e',rfl⟩;simp only [List.filterMap_cons,id] at hn;exact(List.nodup_cons.1 hn).1 hmem
   have hn':(hs.filterMap id).Nodup:=by
    simp only [List.filterMap_cons] at hn;split at hn
    ·exact hn
    exact(List.nodup_cons.1 hn).2
   have ih:=qB hs i h hn' e';simp [List.findIdx?_cons,hne,ih]
def Xm(tmps:Array Value):ResultVar→Sem Value
 | .tmp t=>pure (tmps.getD t undef)
 | .cell a t=>do loadVar t (← asAddr (tmps.getD a undef))
def aBv(w:World)(g:Gh)(d:D)(v:Value):Option Holder→Prop
 | some hd=>(∀n,hd≠ .obj n)∧Own w g.M g.bs g.X hd [] d v
 | none=>∀X h p,Own w g.M g.bs X h p d v
theorem Gs {w : World} {g : Gh} {s : St} {tmps : Array Value} (hok : Ok w g s (bM tmps)) {r : ResultVar} {d : D} {ho : Option Holder} (h : zV P s r = some (d, ho)) :
  ∃v,(Xm tmps r).run P w= .ok v w∧R g.M g.bs d v∧(∀cs,d≠ .tup cs)∧aBv w g d v ho:=by
 cases r with
 | tmp t=>
  have hs:=hok.slot t;simp only [zV] at h;split at h
  ·cases h
  ·rename_i y hne hy;simp only [Option.some.injEq,Prod.mk.injEq] at h;obtain⟨rfl,rfl⟩:=h;rw [hy] at hs;exact⟨_,rfl,hs.1,fun cs e=>hne cs e,by simp,hs.2⟩
  cases h
 | cell a t =>
  simp only [zV] at h;split at h
  ·rename_i ag n m off ht ha;split at h
   ·rename_i cs hcs;split at h
    ·rename_i y hld;obtain⟨b,hb,hv⟩:=hok.rdL (x:= .tmp a) ha;have hv':tmps.getD a undef= .pointer (some ⟨b,off,none⟩):=hv;have hbx:=hok.loc m b cs hb hcs;obtain⟨v,hrun,hr⟩:=pE (P:=P) (vI hbx off) ht hld;have hnt:=nC (vI hbx off) hld;have hrun':(Xm tmps (.cell a t)).run P w= .ok v w:=by
      simp only [Xm,hv'];simp [asAddr,hrun]
     split at h
     ·rename_i hc;simp only [Option.some.injEq,Prod.mk.injEq] at h;obtain⟨rfl,rfl⟩:=h;obtain⟨rfl,rfl⟩:=hc;refine⟨v,hrun',hr,hnt,by simp,?_⟩;rcases hbx with rfl | ⟨cur,E,h1,h2,h3,h4,h5⟩
      ·simp only [qP,if_true,List.drop_zero,List.take_nil] at hld;split at hld
       ·simp only [Option.some.injEq] at hld;subst hld;cases hr with
        | agg _ vs hl hrr h1'=>exact .agg _ _ vs fun i e c a1 a2=>by simp at a1
       cases hld
      simp only [qP,if_true,List.drop_zero] at hld;split at hld
      ·simp only [Option.some.injEq] at hld;subst hld;cases hr with
       | agg _ vs hl hrr h1' =>
        refine .agg _ _ vs fun i e c a1 a2=>?_;rw [List.getElem?_take] at a1;split at a1
        ·rename_i hin
         -- the value's cells are the box's
         have hcu:cur[i]?=some c:=by
          obtain⟨td,ti,i1,i2,i3,i4⟩:=kU ht;have e1:∀(j:Nat) (x:Value),(cur.toList.take n)[j]?=some x→w.cell? ((⟨b,0,none⟩:Addr).add j)=some x:=by
           intro j x hj;rw [Addr.add_none,Nat.zero_add,cell_of_row w b j cur E (0,0) h1];rw [List.getElem?_take] at hj;split at hj
           ·rw [Array.getElem?_toList] at hj;exact hj
           cases hj
          have hlen:(cur.toList.take n).length=n:=by
           rw [List.length_take,Array.length_toList,h2];omega
          have hl2:=run_loadCells_list (P:=P) w ⟨b,0,none⟩ (cur.toList.take n) e1;rw [hlen] at hl2;have:(loadVar t ⟨b,0,none⟩).run P w= .ok (.agg (cur.toList.take n).toArray) w:=by simp [loadVar,jP i1,i3,bG i2,i4,hl2]
          rw [this] at hrun;simp only [Result.ok.injEq,and_true,Value.agg.injEq] at hrun;rw [← hrun,List.getElem?_toArray,List.getElem?_take,if_pos hin,Array.getElem?_toList] at a2;exact a2
         exact(h5 i e c a1 hcu).2.1
        cases a1
      cases hld
     simp only [Option.some.injEq,Prod.mk.injEq] at h;obtain⟨rfl,rfl⟩:=h;refine⟨v,hrun',hr.s2,?_,fun X h p=>oU hr hnt⟩;intro ds e;cases y <;> simp [D.s2,D.s1] at e;exact absurd rfl (hnt _)
    cases h
   cases h
  cases h
theorem tQ {w:World} {g:Gh} {s:St} {tmps:Array Value} (hok:Ok w g s (bM tmps)):∀(rs:List ResultVar) (xs:List (D×Option Holder)),wG P s rs=some xs→∃vs:List Value,vs.length=xs.length∧
  (rs.mapM (Xm tmps)).run P w= .ok vs w∧
  ∀(i:Nat) (x:D×Option Holder) (v:Value),xs[i]?=some x→vs[i]?=some v→R g.M g.bs x.1 v∧(∀cs,x.1≠ .tup cs)∧aBv w g x.1 v x.2
 | [],xs,h=>by
  simp only [wG,Option.some.injEq] at h;subst h;exact⟨[],rfl,rfl,fun i x v h=>by simp at h⟩
 | r :: rs, xs, h => by
  simp only [wG] at h;split at h
  ·rename_i x ys h1 h2;simp only [Option.some.injEq] at h;subst h;obtain⟨d,ho⟩:=x;obtain⟨v,a1,a2,a3,a4⟩:=Gs hok h1;obtain⟨vs,b1,b2,b3⟩:=tQ hok rs ys h2;refine⟨v::vs,by simp [b1],?_,fun i x u c1 c2=>?_⟩
   ·rw [List.mapM_cons,Sem.run_bind];rw [a1,Result.andThen_ok,Sem.run_bind,b2];rfl
   match i with
   | 0=>simp at c1 c2;subst c1;subst c2;exact⟨a2,a3,a4⟩
   | i+1=>exact b3 i x u (by simpa using c1) (by simpa using c2)
  cases h
theorem aJ9 {f : FuncId} {fn : Func} {c : Code} {args : List D} {σ : List (List D)} {Q : D → List (List D) → Prop} (hf : P.funcs[f]? = some fn) (hb : fn.body = some c) (hname : (fn.name != "runtime.NumGoroutine") = true)
  (h:AWP P c (aJ P fn.results.toList Q) { n:=args.length+(fn.ntmps - args.length),env:=eB args,loc:= [],obj:=σ }):Ct P f args σ Q:=by
 refine⟨by simp only [uH,hf,hb];simp only [hname];rfl,fun w g vs hsz hbl hok=>?_⟩;refine(callsIn_wide (n:=0)).1 (callsIn_of_wp_marks hf hb trivial ?_);have hok':Ok w g { n:=args.length+(fn.ntmps - args.length),env:=eB args,loc:= [],obj:=σ } (bM (vs++Array.replicate (fn.ntmps - vs.size) undef)):=by
  refine⟨hok.mem,hok.xlt,fun t=>?_,hok.ll,hok.loc,hok.ol,hok.obj⟩;have hs:=hok.slot t;have e:(St.ofArgs args σ).env t=eB args t:=rfl;rw [e] at hs;show SlotOk w g t (eB args t) _
  by_cases ht:t<vs.size
  ·have:bM (vs++Array.replicate (fn.ntmps - vs.size) undef) t=bM vs t:=by
    simp [bM,Array.getElem?_append_left,ht]
   rw [this];exact hs
  have:eB args t= .any:=by
   simp only [eB];rw [List.getElem?_eq_none (by omega)]
  rw [this];exact⟨.any _,.flat _ _ _ rfl⟩
 refine wpIn_mono (F:=fR none) (h w g w g _ (.of (Fr.refl w g)) hok' (by simp [hsz])) ?_;rintro e a w1 ⟨hd,st',g',⟨hexit,hq⟩,hf1,hok1,hn'⟩;have main:∀w':World,Fr w g w' g'→Ok w' g' st' (bM a.tmps)→∃v,(results fn a.tmps).run P w'= .ok v w'∧∃r σ' x g',Ending.returned v= .returned x∧Q r σ'∧g'.bl= []∧Fr w g w' g'∧Ok w' g' (St.ofRes r σ') (fun t=>if t=0 then x else undef):=by
  intro w' hf' hok'';split at hq
  ·rename_i xs hxs;obtain⟨hh,hQ⟩:=hq;obtain⟨vs',b1,b2,b3⟩:=tQ hok'' _ xs hxs;have hnd:((xs.map (·.2)).filterMap id).Nodup:=by simpa [Gb] using hh
   have hrun:(results fn a.tmps).run P w'= .ok (if h:vs'.toArray.size=1 then vs'.toArray[0] else .tuple vs'.toArray) w':=by
    have e0:results fn a.tmps=(do let vs ← fn.results.mapM (Xm a.tmps);pure (if h:vs.size=1 then vs[0] else .tuple vs)):=by
     unfold results;congr 1
    rw [e0,Sem.run_bind,Array.mapM_eq_mapM_toList,Sem.run_map,b2];rfl
   refine⟨_,hrun,D.ofList (xs.map (·.1)),st'.obj,_, { M:=g'.M,X:=fun b=>(g'.X b).bind (uW (xs.map (·.2))),bl:= [],bs:=g'.bs },rfl,hQ,rfl,?_,?_⟩
   ·exact⟨hf'.os,hf'.tape,hf'.output,hf'.size,fun b hb hx=>by
     obtain⟨c1,c2,c3⟩:=hf'.keep b hb hx;exact⟨c1,by simp [c2],c3⟩,hf'.mono,hf'.bs⟩
   refine⟨hok''.mem,fun b t hb=>?_,fun t=>?_,rfl,fun n b cs h1 h2=>by simp at h1,hok''.ol,fun n b cs h1 h2=>?_⟩
   ·simp only [Option.bind_eq_some_iff] at hb;obtain⟨t',hb,_⟩:=hb;exact hok''.xlt b t' hb
   ·show SlotOk w' _ t (eB [D.ofList (xs.map (·.1))] t) _
    by_cases ht:t=0
    ·subst ht;simp only [eB,List.getElem?_cons_zero,if_true]
     -- each result with its rights
     have each:∀(i:Nat) (x:D×Option Holder) (v:Value),xs[i]?=some x→vs'[i]?=some v→R g'.M g'.bs x.1 v∧(∀cs,x.1≠ .tup cs)∧Own w' g'.M g'.bs (fun b=>(g'.X b).bind (uW (xs.map (·.2)))) (.slot 0) (if(xs.map (·.2)).length=1 then [] else [i]) x.1 v:=by
      intro i x v c1 c2;obtain⟨d1,d2,d3⟩:=b3 i x v c1 c2;refine⟨d1,d2,?_⟩;cases hx2:x.2 with
      | none=>rw [hx2] at d3;exact d3 _ _ _
      | some hd=>
       rw [hx2] at d3;refine d3.2.move (fun _ _ _ h=>h) (fun _ _ h=>h) _ fun b q hb=>⟨rfl,fun _ h=>h,?_⟩;have hi:(xs.map (·.2))[i]?=some (some hd):=by rw [List.getElem?_map,c1,Option.map_some,hx2]
       have hidx:=qB _ i hd hnd hi;simp only [List.nil_append] at hb;simp only [hb,Option.bind_some];have hno:=d3.1;cases hd with
       | obj n=>exact absurd rfl (hno n)
       | slot t=>simp only [uW,hidx,Option.map_some]
       | loc t=>simp only [uW,hidx,Option.map_some]
     rcases xs with _ | ⟨x,_ | ⟨y,xs⟩⟩
     ·rcases vs' with _ | ⟨v,vs'⟩
      ·simp only [D.ofList,List.map_nil];exact⟨.tup [] #[] rfl (fun i d x h=>by simp at h),.tup _ [] #[] (fun i d x h=>by simp at h)⟩
      simp at b1
     ·rcases vs' with _ | ⟨v,_ | ⟨u,vs'⟩⟩
      ·simp at b1
      ·obtain⟨d1,d2,d3⟩:=each 0 x v rfl rfl;have d3':Own w' g'.M g'.bs (fun b=>(g'.X b).bind (uW [x.2])) (.slot 0) [] x.1 v:=by simpa using d3
       exact⟨d1,d3'⟩
      simp at b1
     rcases vs' with _ | ⟨v,_ | ⟨u,vs'⟩⟩
     ·simp at b1
     ·simp at b1
     have hlen:((x::y::xs).map (·.2)).length≠1:=by simp
     simp only [if_neg hlen] at each;have e1:D.ofList ((x::y::xs).map (·.1))= .tup ((x::y::xs).map (·.1)):=rfl;rw [e1];have e2:(if h:(v::u::vs').toArray.size=1 then(v::u::vs').toArray[0] else Value.tuple (v::u::vs').toArray)= .tuple (v::u::vs').toArray:=by
      rw [dif_neg (by simp)]
     rw [e2];refine⟨.tup _ _ (by simpa using b1) (fun i d z c1 c2=>?_),.tup _ _ _ fun i d z c1 c2=>?_⟩
     ·rw [List.getElem?_map,Option.map_eq_some_iff] at c1;obtain⟨x',c1,rfl⟩:=c1;exact(each i x' z c1 (by simpa using c2)).1
     rw [List.getElem?_map,Option.map_eq_some_iff] at c1;obtain⟨x',c1,rfl⟩:=c1;simpa using(each i x' z c1 (by simpa using c2)).2.2
    have:eB [D.ofList (xs.map (·.1))] t= .any:=by
     simp only [eB];rw [List.getElem?_eq_none (by simp;omega)]
    rw [this];exact⟨.any _,.flat _ _ _ rfl⟩
   exact(hok''.obj n b cs h1 h2).keep (fun _ _ _ h=>h) (fun _ _ h=>h) fun b q hb=>⟨rfl,fun _ h=>h,by simp [hb,uW]⟩
  exact hq.elim
 have out:LeavesInM Fence.wide 0 P fn a.tmps (fun e w'=>∃r σ' x g',e=Ending.returned x∧Q r σ'∧g'.bl= []∧Fr w g w' g'∧Ok w' g' (St.ofRes r σ') (fun t=>if t=0 then x else undef)) a.defers .returning w1:=by
  rcases hf1.mks with h0 | ⟨D,hB,h0,hD,hX⟩
  ·rw [h0];exact main w1 hf1.toFr hok1
  rw [h0];refine⟨by simp,.inl ⟨D,_,rfl,run_takeDeferred hD,main _ ⟨hf1.os,hf1.tape,hf1.output,by simpa [World.putObj] using hf1.size,fun b hb hx=>?_,hf1.mono,hf1.bs⟩ (hok1.putObj hD rfl hX)⟩⟩;obtain⟨c1,c2,c3⟩:=hf1.keep b hb hx;exact⟨(World.putObj_at (by omega)).trans c1,c2,c3⟩
 cases e with
 | normal=>exact out
 | ret=>exact out
 | _=>exact hexit.elim
end
section
variable {P:Program} {c:Cfg} {st:St} {K:St→Prop}
def aO:Nat→List D→List (Nat×Slot)
 | _, []=> []
 | i,d::l=>(i,.d d)::aO (i+1) l
theorem Ak(l:List D):eB l=cO (aO 0 l):=by
 funext t;have:∀(l:List D) (i:Nat),(∀u,cO (aO i l) (i+u)=eB l u)∧∀u,u<i→cO (aO i l) u= .any:=by
  intro l;induction l with
  | nil=>intro i;exact⟨fun u=>by simp [aO,cO,eB],fun u _=>rfl⟩
  | cons d l ih =>
   intro i;refine⟨fun u=>?_,fun u hu=>?_⟩
   ·simp only [aO,cO]
    match u with
    | 0=>simp [eB]
    | u+1=>
     rw [if_neg (by omega)];have:=(ih (i+1)).1 u;rw [show i+(u+1)=i+1+u by omega,this];simp [eB]
   simp only [aO,cO];rw [if_neg (by omega)];exact(ih (i+1)).2 u (by omega)
 have:=(this l 0).1 t;rw [Nat.zero_add] at this;exact this.symm
theorem Wm {f : FuncId} {fn : Func} {cd : Code} {args : List D} {σ : List (List D)} {Q : D → List (List D) → Prop} {n : Nat} {rs : List ResultVar} (hf : P.funcs[f]? = some fn) (hb : fn.body = some cd) (hname : (fn.name != "runtime.NumGoroutine") = true)
  (hn:fn.ntmps=n) (hrs:fn.results=rs.toArray) (hle:args.length≤n)
  (h:AWP P cd (aJ P rs Q) (St.mk' n (aO 0 args) [] σ)):Ct P f args σ Q:=by
 refine aJ9 hf hb hname ?_;rw [hn,hrs,Ak,show args.length+(n - args.length)=n by omega];exact h
theorem Qc(n:Nat)(l:List (Nat×Slot))(loc obj:List (List D)):(St.mk' n l loc obj).n=n:=rfl
theorem xR(n:Nat)(l:List (Nat×Slot))(loc obj:List (List D)):(St.mk' n l loc obj).env=cO l:=rfl
theorem yB(n:Nat)(l:List (Nat×Slot))(loc obj:List (List D)):(St.mk' n l loc obj).loc=loc:=rfl
theorem xT(n:Nat)(l:List (Nat×Slot))(loc obj:List (List D)):(St.mk' n l loc obj).obj=obj:=rfl
theorem mN(a:Nat)(s:Slot)(r:List (Nat×Slot))(t:Nat):cO ((a,s)::r) t=if t=a then s else cO r t:=rfl
theorem wD(t:Nat):cO [] t= .any:=rfl
theorem aD0(n:Nat)(l:List (Nat×Slot))(loc obj:List (List D))(t:Nat)(s:Slot):(St.mk' n l loc obj).set t s=St.mk' n ((t,s)::l) loc obj:=rfl
theorem aCu(t:Nat)(s:Slot):st.put (some t) s=st.set t s:=rfl
theorem aA9(s:Slot):st.put none s=st:=rfl
theorem Wo(n:Nat)(l:List (Nat×Slot))(loc obj loc':List (List D)):({ St.mk' n l loc obj with loc:=loc' } :St)=St.mk' n l loc' obj:=rfl
theorem aCp(n:Nat)(l:List (Nat×Slot))(loc obj obj':List (List D)):({ St.mk' n l loc obj with obj:=obj' } :St)=St.mk' n l loc obj':=rfl
theorem Qf(t:Nat):st.rdS (.tmp t)=st.env t:=rfl
theorem To(v:Value):st.rdS (.const v)= .d (D.ofV v):=rfl
theorem aCx(f:FuncId):st.rdS (.func f)= .d (.clo (.func f) [] []):=rfl
def Slot.toD:Slot→D
 | .d x=>x
 | .lref _ _=> .any
theorem aIu(t:Nat):st.rd (.tmp t)=(st.env t).toD:=by
 unfold St.rd;rw [Qf];cases st.env t <;> rfl
theorem Wz(v:Value):st.rd (.const v)=D.ofV v:=rfl
theorem qU(f:FuncId):st.rd (.func f)= .clo (.func f) [] []:=rfl
theorem aJf(d:D):(Slot.d d).toD=d:=rfl
theorem Xp(n o:Nat):(Slot.lref n o).toD= .any:=rfl
theorem aDr(k:IntKind)(n:Int):D.ofV (.int k n)= .v (.int k n):=rfl
theorem Xn(b:Bool):D.ofV (.bool b)= .v (.bool b):=rfl
theorem Na(s:ByteArray):D.ofV (.string s)= .v (.string s):=rfl
theorem aF5:D.ofV (.slice none 0 0)= .sl true []:=rfl
theorem aFq:D.ofV (.pointer none)= .v (.pointer none):=rfl
theorem aDa(x:Value):D.strip (.v x)= .v x:=rfl
theorem Xj(o:Bool)(es:List D):D.strip (.sl o es)= .sl false es:=rfl
theorem Tu(cs:List D):D.strip (.agg cs)= .agg (cs.map D.s1):=rfl
theorem Uw(cs:List D):D.strip (.adr cs)= .adr cs:=rfl
theorem Rn(n o:Nat):D.strip (.ref n o)= .ref n o:=rfl
theorem Te:D.strip .any= .any:=rfl
theorem Sk(f:Go.Fn)(a b:List D):D.strip (.clo f a b)= .clo f a b:=rfl
theorem aLi(x:Value):D.s2 (.v x)= .v x:=rfl
theorem aJj(o:Bool)(es:List D):D.s2 (.sl o es)= .sl false es:=rfl
theorem aHb(cs:List D):D.s2 (.agg cs)= .agg (cs.map D.s1):=rfl
theorem aH2(cs:List D):D.s2 (.adr cs)= .adr cs:=rfl
theorem aH5(n o:Nat):D.s2 (.ref n o)= .ref n o:=rfl
theorem aI3:D.s2 .any= .any:=rfl
theorem aMz(x:Value):D.s1 (.v x)= .v x:=rfl
theorem aJ3(o:Bool)(es:List D):D.s1 (.sl o es)= .sl false es:=rfl
theorem aH4(cs:List D):D.s1 (.adr cs)= .adr cs:=rfl
theorem aHh(n o:Nat):D.s1 (.ref n o)= .ref n o:=rfl
theorem aGz:D.s1 .any= .any:=rfl
theorem aFv(x:Value):D.plain (.v x)=true:=rfl
theorem Yx(o:Bool)(es:List D):D.plain (.sl o es)=true:=rfl
theorem Qr(cs:List D):D.plain (.agg cs)=true:=rfl
theorem Se(cs:List D):D.plain (.adr cs)=true:=rfl
theorem Ug(n o:Nat):D.plain (.ref n o)=true:=rfl
theorem Sz(f:Go.Fn)(a b:List D):D.plain (.clo f a b)=true:=rfl
theorem Tn:D.plain .any=true:=rfl
theorem aFj(x:Value):D.solid (.v x)=true:=rfl
theorem aAn(o:Bool)(es:List D):D.solid (.sl o es)=true:=rfl
theorem Rm(cs:List D):D.solid (.agg cs)=true:=rfl
theorem Sy(cs:List D):D.solid (.adr cs)=true:=rfl
theorem Uf(n o:Nat):D.solid (.ref n o)=true:=rfl
theorem Us(f:Go.Fn)(a b:List D):D.solid (.clo f a b)=true:=rfl
theorem Vn(x:Value):D.ncells (.v x)=1:=rfl
theorem Ui(o:Bool)(es:List D):D.ncells (.sl o es)=1:=rfl
theorem Lr(cs:List D):D.ncells (.agg cs)=cs.length:=rfl
theorem Mj(n o:Nat):D.ncells (.ref n o)=1:=rfl
theorem aEa(x:Value):D.cells (.v x)= [.v x]:=rfl
theorem aCo(o:Bool)(es:List D):D.cells (.sl o es)= [.sl o es]:=rfl
theorem Qy(cs:List D):D.cells (.agg cs)=cs:=rfl
theorem Ue(n o:Nat):D.cells (.ref n o)= [.ref n o]:=rfl
def Ki(d:Option Tmp)(st:St):Prop:=match d with | some d=>d<st.n | none=>True
theorem dR(all:List Oper):lE P c all [] st K=K st:=rfl
theorem Eb(all r:List Oper)(d:Option Tmp)(op:Op)(ty:TypeId)(pos:String)(after:Array Edge)(j:Nat)(want:Bool):lE P c all (⟨d,op,ty,pos,after,some (j,want)⟩::r) st K=
  match aN all j with
   | some t=>match xI (st.env t) want with
    | some b=>(b=want→Ki d st∧fA P c d op st fun st'=>lE P c all r st' K)∧(b= !want→Ki d st∧lE P c all r (st.put d .und) K)
    | none=>False
   | none=>False:=rfl
theorem Vw(d:Nat)(n:Nat)(l:List (Nat×Slot))(loc obj:List (List D)):Ki (some d) (St.mk' n l loc obj)=(d<n):=rfl
theorem aAf:Ki none st=True:=rfl
end
end Go.Vm
