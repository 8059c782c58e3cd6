import Derived.Test.YtbdjepeabjangaaGreatVmX3
set_option linter.all false
namespace Go.Vm
open Go
variable {dst:Option Tmp}{o:Oper}{sets:List (Nat×Slot)}{sx:Slot}{t:TypeId}{x:Operand}{z:Array Value}
section
variable {P:Program}
def xQ(P:Program)(dst:Option Tmp)(t:TypeId)(x:Operand)(st:St)(K:St->Prop):Prop:=
  (∃e,P.underlying t=some (.slice e))/\match st.rd x with
  | .xs _ es=>K (st.put dst (.d (.int es.length)))
  | .xl n=>K (st.put dst (.d (.int n)))
  | .slo _ _ len _=>K (st.put dst (.d (.int len)))
  | _=>False
theorem Sg {st:St} {K:St->Prop} (t:TypeId)(x:Operand)(hd:dD o st)(ho:o.op= .call { callee:= .builtin .len,args:=#[x],argTypes:=#[t] })(h:xQ P o.dst t x st K):Does P o st K:=by
  obtain⟨⟨e,ht⟩,h⟩:=h;split at h
  . rename_i k es hx
    refine bL hd _ (fun w g tmps hok=>?_) h;have hr:=hok.rd x;rw [hx] at hr;generalize hv:ev tmps x=v at hr;refine⟨.int .i64 es.length,?_,bC (.v _ rfl) rfl⟩;cases hr with
    | xs _ _ a n cap hn=>simp [execOp,ho,resolve,invoke,builtin,Builtin.len_,hv,run_underlying ht,goInt,hn]
  . rename_i n hx
    refine bL hd _ (fun w g tmps hok=>?_) h;have hr:=hok.rd x;rw [hx] at hr;generalize hv:ev tmps x=v at hr;refine⟨.int .i64 n,?_,bC (.v _ rfl) rfl⟩;cases hr with
    | xl a _ cap=>simp [execOp,ho,resolve,invoke,builtin,Builtin.len_,hv,run_underlying ht,goInt]
  . rename_i m a len cap hx
    refine bL hd _ (fun w g tmps hok=>?_) h;have hr:=hok.rd x;rw [hx] at hr;generalize hv:ev tmps x=v at hr;refine⟨.int .i64 len,?_,bC (.v _ rfl) rfl⟩;cases hr with
    | slo _ _ _ _ x hb hc hm=>simp [execOp,ho,resolve,invoke,builtin,Builtin.len_,hv,run_underlying ht,goInt]
  exact h.elim
def iV(P:Program)(dst:Option Tmp)(t:TypeId)(x i:Operand)(st:St)(K:St->Prop):Prop:=
  match st.rd i,fA P t,st.rd x with
  | .v (.int _ n),some (_,k,_,_),.slo m a len _=>(0<=n/\n<len)/\K (st.put dst (.d (.ref m (a+n.toNat * k))))
  | _,_,_=>False
theorem zY {st:St} {K:St->Prop} (t:TypeId)(x i:Operand)(hd:dD o st)(ho:o.op= .indexAddr t x i)(h:iV P o.dst t x i st K):Does P o st K:=by
  unfold iV at h;split at h
  . rename_i kk n e k by_ z m a len cap hi he hx
    obtain⟨ti,zv,h1,h2,h3,h4,h5,h6,h7,h8⟩:=gW he;obtain⟨⟨hn0,hn1⟩,hK⟩:=h;refine bL hd _ (fun w g tmps hok=>?_) hK;have hr:=hok.rd x;rw [hx] at hr;have hri:=hok.rd i;rw [hi] at hri;have hiv:=hri.int;generalize hv:ev tmps x=v at hr;cases hr with
    | slo _ _ _ _ x hb hc hm =>
      obtain⟨b,hb2,rfl⟩:=hb (by omega);refine⟨.pointer (some ⟨b,a+n.toNat * k,none⟩),?_,bC (.ref _ _ b hb2) rfl⟩;have hc2:0<=n/\n<(len:Int):=⟨hn0,hn1⟩;simp [execOp,ho,Instr.indexAt,hv,hiv,asIntOf,run_underlying h1,bH h2,h5,hc2,Addr.add_none]
  exact h.elim
def oT (P : Program) (dst : Option Tmp) (t : TypeId) (x : Operand) (lo hi : Option Operand) (st : St) (K : St -> Prop) : Prop :=
  match fA P t,st.rd x with
  | some (_, k, _, _), .slo m a len cap => match eY st 0 lo, eY st len hi with
    | some l,some h=>(0<=l/\l<=h/\(h<=len\/h<=cap))/\K (st.put dst (.d (.slo m (a+l.toNat * k) (h.toNat - l.toNat) (cap - l.toNat))))
    | _,_=>False
  | _,_=>False
theorem xC {w:World} {g:Gh} {st:St} {tmps:Array Value} (hok:Ok w g st (bQ tmps)) {isSlice:Bool} {len cap:Nat} {lo hi:Option Operand} {l h:Int} (hcap:len<=cap)
    (h1:eY st 0 lo=some l) (h2:eY st len hi=some h) (hb:0<=l/\l<=h/\(h<=len\/h<=cap)):
    (Instr.sliceBounds isSlice len cap (lo.map (ev tmps)) (hi.map (ev tmps)) none).run P w= .ok (l.toNat,h.toNat,cap) w:=by
  obtain⟨b1,b2,b3⟩:=hb;rcases jZ hok h1 with ⟨rfl,rfl⟩ | ⟨y,k,rfl,e1⟩ <;> rcases jZ hok h2 with ⟨rfl,rfl⟩ | ⟨z,k',rfl,e2⟩
  . simp [Instr.sliceBounds]
  . simp [Instr.sliceBounds,e2,dQ (P:=P) (w:=w) (k:=k') (i:=h) (y:=cap) (code:=if isSlice=true then .sliceAcap else .sliceAlen) (by omega)]
  . have := dQ (P := P) (w := w) (k := k) (i := l) (y := len) (code := .sliceB) (by omega)
    simp [Instr.sliceBounds,e1,this]
  have a1:=dQ (P:=P) (w:=w) (k:=k') (i:=h) (y:=cap) (code:=if isSlice=true then .sliceAcap else .sliceAlen) (by omega);have a2:=dQ (P:=P) (w:=w) (k:=k) (i:=l) (y:=h.toNat) (code:= .sliceB) (by omega);simp [Instr.sliceBounds,e1,e2,a1,a2]
theorem Kb {st : St} {K : St -> Prop} (t : TypeId) (x : Operand) (lo hi : Option Operand) (hd : dD o st) (ho : o.op = .slice t x lo hi none) (h : oT P o.dst t x lo hi st K) : Does P o st K := by
  unfold oT at h;split at h
  . rename_i e k by_ z m a len cap he hx
    obtain⟨ti,zv,h1,h2,h3,h4,h5,h6,h7,h8⟩:=gW he;split at h
    . rename_i l hh e1 e2
      obtain⟨hb,hK⟩:=h;refine bL hd _ (fun w g tmps hok=>?_) hK;have hr:=hok.rd x;rw [hx] at hr;generalize hv:ev tmps x=v at hr;cases hr with
      | slo _ _ _ _ x hbs hc hm =>
        have:=xC (P:=P) (isSlice:=true) hok hc e1 e2 hb;obtain⟨b1,b2,b3⟩:=hb;by_cases hml:cap=l.toNat
        . refine ⟨.slice x (hh.toNat - l.toNat) (cap - l.toNat), ?_, bC ?_ rfl⟩
          . subst hml
            cases x <;> simp [execOp,ho,Instr.sliceAt,hv,run_underlying h1,Instr.slice,this,bH h2]
          exact .slo _ _ _ _ x (by omega) (by omega) (by omega)
        obtain⟨b,hbs2,rfl⟩:=hbs (by omega);refine⟨.slice (some ⟨b,a+l.toNat * k,none⟩) (hh.toNat - l.toNat) (cap - l.toNat),?_,bC ?_ rfl⟩
        . simp [execOp,ho,Instr.sliceAt,hv,run_underlying h1,Instr.slice,this,bH h2,hml,h5,Addr.add_none]
        exact .slo _ _ _ _ _ (fun h=>⟨b,hbs2,rfl⟩) (by omega) (by omega)
    exact h.elim
  exact h.elim
def gN(z:Array Value)(n:Nat):List D:=(List.replicate n (z.toList.map D.ofV1)).flatten
def qH (P : Program) (dst : Option Tmp) (t : TypeId) (x : Operand) (st : St) (K : St -> Prop) : Prop :=
  dst=none/\match fA P t,st.rd x with
  | some (_, k, _, z), .slo m a len _ => match st.obj[m]? with
    | some cs=>(a+len * k<=cs.length/\∀c∈z.toList,c.oneCell'=true)/\K { st with obj:=st.obj.set m (dE cs a (gN z len)) }
    | none=>False
  | _,_=>False
theorem gX {k:Nat} (hz:z.size=k):∀n,(gN z n).length=n * k
  | 0=>by simp [gN]
  | n + 1 => by
    have:=gX hz n;simp only [gN] at *;rw [yD,List.flatten_cons,aX,this];simp [hz,cB,tJ]
theorem Co (hz:0<z.size)(n:Nat):(Builtin.zeroCells z (n+1)).toList=z.toList++(Builtin.zeroCells z n).toList:=by
  apply lR;intro i;simp only [Builtin.zeroCells,Array.toList_map,Array.toList_range,bP];by_cases hi:i<z.size
  . rw [aU (by simpa using hi)]
    have:i<(n+1) * z.size:=by rw [cB];omega
    rw [oA this];simp [nL hi,hi]
  rw [bI (by simpa using hi),bP];by_cases h2:i<(n+1) * z.size
  . have h3 : i - z.size < n * z.size := by rw [cB] at h2; omega
    rw [oA h2,bF,oA h3];have:i % z.size=(i - z.size) % z.size:=by
      have:=xF (i - z.size) z.size;rw [show i - z.size+z.size=i by omega] at this;exact this
    simp [this]
  have h3:¬i - z.size<n * z.size:=by rw [cB] at h2;omega
  rw [gP (by simpa using h2),bF,gP (by simpa using h3)]
theorem yY {M:Mem} {bs:List Nat} {z:Array Value} (hz:0<z.size):∀n (i:Nat) (d:D) (x:Value),(gN z n)[i]?=some d->(Builtin.zeroCells z n).toList[i]?=some x->d=D.ofV1 x/\x∈z.toList
  | 0,i,d,x,h,_=>by simp [gN] at h
  | n + 1, i, d, x, h, h' => by
    rw [Co hz] at h';simp only [gN,yD,List.flatten_cons] at h;by_cases hi:i<z.size
    . rw [aU (by simpa using hi), bP] at h
      rw [aU (by simpa using hi)] at h';rw [h'] at h;simp at h;exact⟨h.symm,aS h'⟩
    rw [bI (by simpa using hi)] at h;rw [bI (by simpa using hi)] at h';simp only [cC,bF] at h h';exact yY (M:=M) (bs:=bs) hz n _ d x h h'
theorem Lg {st : St} {K : St -> Prop} (t : TypeId) (x : Operand) (hd : dD o st) (ho : o.op = .call { callee := .builtin .clear, args := #[x], argTypes := #[t] }) (h : qH P o.dst t x st K) : Does P o st K := by
  obtain⟨hdst,h⟩:=h;split at h
  . rename_i e k by_ z m a len cap he hx
    obtain⟨ti,zv,h1,h2,h3,h4,h5,h6,h7,h8⟩:=gW he;split at h
    . rename_i cs hcs
      obtain⟨⟨hfit,hz1⟩,hK⟩:=h;refine bE hd fun w g tmps hok=>?_;have hr:=hok.rd x;rw [hx] at hr;generalize hv:ev tmps x=v at hr;cases hr with
      | slo _ _ _ _ xa hbs hc hm=>
      have hml:m<st.obj.length:=(aH.1 hcs).1;rw [hdst];by_cases hlen:len=0
      . subst hlen
        refine⟨.tuple #[],w,g,_,.inl (by cases xa <;> simp [execOp,ho,resolve,invoke,builtin,Builtin.clear_,hv,run_underlying h1]),hK,Fr.refl w g,?_,rfl,by simp⟩;have:dE cs a (gN z 0)=cs:=by simp [dE,gN]
        rw [this];have e:({ st with obj:=st.obj.set m cs } :St)=st:=by
          have:st.obj.set m cs=st.obj:=by
            apply lR;intro i;rw [bS];split
            . rename_i e;subst e;exact hcs.symm
            rfl
          rw [this]
        rw [e];exact hok
      obtain⟨b,hbs2,rfl⟩:=hbs (by omega);have hne:cs≠ []:=by
        intro e;subst e;have h0:a+len * k<=0:=by simpa using hfit
        have:0<len * k:=lU (by omega) h8;omega
      obtain⟨cur,E,o1,o2,o3,o4,o5⟩:=(hok.obj m b cs hbs2 hcs).resolve_left hne;have hzs:z.size=k:=h7;have hzl:(Builtin.zeroCells z len).toList.length=len * k:=by rw [bF,size_zeroCells,hzs]
      have hone:∀c∈(Builtin.zeroCells z len).toList,c.oneCell'=true:=fun c hc=>hz1 c (jC hc (by omega));have hrun:=run_storeCells_at P b a E (Builtin.zeroCells z len).toList 0 cur w o1 (by rw [hzl,o2];omega) hone;simp only [iJ] at hrun;have hdl:(gN z len).length=len * k:=gX hzs len;have e1:a+(gN z len).length<=cs.length:=by rw [hdl];exact hfit
      have e2:a+(Builtin.zeroCells z len).toList.length<=cur.toList.length:=by rw [hzl,bF,o2];exact hfit
      obtain⟨k6,k7⟩:=hok.writeObj m b (dE cs a (gN z len)) (cur.toList.take a++(Builtin.zeroCells z len).toList++cur.toList.drop (a+(Builtin.zeroCells z len).toList.length)).toArray hbs2 (by rw [hcs];simpa using hne)
        (by rw [eK,gA e2];unfold dE;rw [gA e1,bF,o2])
        (fun i d y a1 a2=>by
          unfold dE at a1;rw [eA e1,hdl] at a1;rw [eO,eA e2,hzl] at a2;by_cases c1:i<a
          . simp only [c1, aJ] at a1 a2
            exact o5 i d y a1 (by simpa using a2)
          simp only [c1,aZ] at a1 a2;by_cases c2:i<a+len * k
          . simp only [c2, aJ] at a1 a2
            obtain⟨rfl,hy⟩:=yY (M:=g.M) (bs:=g.bs) (by omega) len _ d y a1 a2;exact⟨R.ofV1 _ _ _,Bd y,hz1 y hy⟩
          simp only [c2,aZ] at a1 a2;exact o5 i d y a1 (by simpa using a2))
      refine⟨.tuple #[],_,_,_,.inl ?_,hK,k7,k6,rfl,by simp⟩;have hlen':∃n,len=n+1:=⟨len - 1,by omega⟩;obtain⟨n,rfl⟩:=hlen';have hzv:(zeroValue e).run P w= .ok zv w:=by simp [zeroValue,typeInfo,h2,h3]
      rw [<- h4] at hrun;simp [execOp,ho,resolve,invoke,builtin,Builtin.clear_,hv,run_underlying h1,hzv,hrun];rw [h4]
    exact h.elim
  exact h.elim
def lP (P : Program) (dst : Option Tmp) (t t2 : TypeId) (s x : Operand) (st : St) (K : St -> Prop) : Prop :=
  match fA P t,dst,s,st.rd x with
  | some (_, k, by_, z), some d, .tmp ts, .sl _ xs => ((∃ e2, P.underlying t2 = some (.slice e2)) /\ (∀ c ∈ z.toList, c.oneCell' = true)) /\ (∀ y ∈ xs, y.ncells = k /\ y.arr = true) /\ ts ≠ d /\
    match st.env ts with
    | .d (.xs k' es)=>(k'=k/\(es.length+xs.length) * by_<=140737488355328/\es.length+xs.length<=maxLen)/\K ((st.set ts .any).set d (.d (.xs k (es++xs))))
    | .d (.sl true [])=>(xs.length * by_<=140737488355328/\xs.length<=maxLen)/\K ((st.set ts .any).set d (.d (.xs k xs)))
    | .d (.slo N a len cap)=>∃ds es,(a=0/\st.obj[N]?=some ds/\ds.length=cap * k/\es.length=len/\(∀d∈es,d.ncells=k/\d.arr=true)/\es.flatMap D.cells<+:ds/\(es.length+xs.length) * by_<=140737488355328/\es.length+xs.length<=maxLen)/\K ((({ st with obj:=st.obj.set N [] } :St).set ts .any).set d (.d (.xs k (es++xs))))
    | _=>False
  | _,_,_,_=>False
theorem Gm {st : St} {K : St -> Prop} (t t2 : TypeId) (s x : Operand) (hd : dD o st) (ho : o.op = .call { callee := .builtin .append, args := #[s, x], argTypes := #[t, t2] }) (h : lP P o.dst t t2 s x st K) : Does P o st K := by
  unfold lP at h;split at h
  . rename_i e k by_ z d ts ow xs he hdst hx
    obtain⟨ti,zv,h1,h2,h3,h4,h5,h6,h7,h8⟩:=gW he;obtain⟨⟨⟨e2,ht2⟩,hz⟩,hxs,hne,h⟩:=h;have hrun:∀(tmps:Array Value) (w w':World) (v:Value),(Builtin.append_ #[t,t] o.type #[bQ tmps ts,ev tmps x]).run P w= .ok v w'->(execOp (ev tmps) o).run P w= .ok (.value v) w':=by
      intro tmps w w' v hr;rw [<- qR (ty:=o.type) h1 ht2] at hr;have:bQ tmps ts=ev tmps (.tmp ts):=rfl;rw [this] at hr;simp [execOp,ho,resolve,invoke,builtin,hr]
    split at h
    . rename_i k' es hs
      obtain⟨⟨rfl,hb,hm⟩,hK⟩:=h;refine bE hd fun w g tmps hok=>?_;obtain⟨v,w',g',r1,r2,r3,r4⟩:=gT hok h1 h2 h3 h5 h6 (by rw [h4];exact h7) h8 (by rw [h4];exact hz) ts d hne es xs _ hs (.inl rfl) (ev tmps x) (wV hok (by have:=hok.rd x;rwa [hx] at this) fun d hd=>(hxs d hd).1) hb hm hxs o.type;exact⟨v,w',g',_,.inl (hrun tmps w w' v r1),hK,r3,by rw [hdst];exact r4,rfl,by rw [r2];simp⟩
    . rename_i hs
      obtain⟨⟨hb,hm⟩,hK⟩:=h;refine bE hd fun w g tmps hok=>?_;obtain⟨v,w',g',r1,r2,r3,r4⟩:=gT hok h1 h2 h3 h5 h6 (by rw [h4];exact h7) h8 (by rw [h4];exact hz) ts d hne [] xs _ hs (.inr (.inl ⟨rfl,rfl⟩)) (ev tmps x) (wV hok (by have:=hok.rd x;rwa [hx] at this) fun d hd=>(hxs d hd).1) (by simpa using hb) (by simpa using hm) hxs o.type;exact⟨v,w',g',_,.inl (hrun tmps w w' v r1),hK,r3,by rw [hdst];exact r4,rfl,by rw [r2];simp⟩
    . rename_i N a len cap hs
      obtain⟨ds,es,⟨rfl,hN,hdl,hel,hes,hpre,hb,hm⟩,hK⟩:=h;refine bE hd fun w g tmps hok=>?_;obtain⟨g1,q1,q2,q3⟩:=hok.closeX ts k N len cap es ds hs hN h8 hdl hel hes hpre;have hR:R g1.M g1.bs (.sl ow xs) (ev tmps x):=by
        have:=hok.rd x;rw [hx] at this;exact this.mono q2.mono q2.bs
      obtain⟨v,w',g',r1,r2,r3,r4⟩:=gT q3 h1 h2 h3 h5 h6 (by rw [h4];exact h7) h8 (by rw [h4];exact hz) ts d hne es xs _ (by simp [St.set]) (.inl rfl) (ev tmps x) (wV q3 hR fun d hd=>(hxs d hd).1) hb hm hxs o.type;have e:(({ st.set ts (.d (.xs k es))with obj:=st.obj.set N [] } :St).set ts .any)=({ st with obj:=st.obj.set N [] } :St).set ts .any:=by
        simp only [St.set];congr 1;funext u;by_cases hu:u=ts <;> simp [hu]
      rw [e] at r4;exact⟨v,w',g',_,.inl (hrun tmps w w' v r1),hK,q2.trans r3,by rw [hdst];exact r4,rfl,by rw [r2,q1];simp⟩
    exact h.elim
  exact h.elim
def Vc (P : Program) (dst : Option Tmp) (op : Op) (st : St) (K : St -> Prop) : Prop := match op with
  | .call ⟨.builtin .len, args, ts⟩ => match args.toList, ts.toList with
    | [x], [t]=>xQ P dst t x st K
    | _,_=>False
  | .call ⟨.builtin .append, args, ts⟩ => match args.toList, ts.toList with
    | [s,x], [t,t2]=>lP P dst t t2 s x st K
    | _,_=>False
  | .call ⟨.builtin .clear, args, ts⟩ => match args.toList, ts.toList with
    | [x], [t]=>qH P dst t x st K
    | _,_=>False
  | .indexAddr t x i=>iV P dst t x i st K
  | .slice t x lo hi none=>oT P dst t x lo hi st K
  | _=>False
theorem aJl {st:St} {K:St->Prop} (hd:dD o st)(h:Vc P o.dst o.op st K):Does P o st K:=by
  have a1:∀ {α:Type} {a:Array α} {x:α},a.toList= [x]->a=#[x]:=fun h=>pL.1 h;have a2:∀ {α:Type} {a:Array α} {x y:α},a.toList= [x,y]->a=#[x,y]:=fun h=>pL.1 h;unfold Vc at h;split at h
  . rename_i args ts ho
    split at h
    . rename_i x t h1 h2;rw [a1 h1,a1 h2] at ho;exact Sg t x hd ho h
    exact h.elim
  . rename_i args ts ho
    split at h
    . rename_i s x t t2 h1 h2;rw [a2 h1,a2 h2] at ho;exact Gm t t2 s x hd ho h
    exact h.elim
  . rename_i args ts ho
    split at h
    . rename_i x t h1 h2;rw [a1 h1,a1 h2] at ho;exact Lg t x hd ho h
    exact h.elim
  . rename_i t x i ho;exact zY t x i hd ho h
  . rename_i t x lo hi ho;exact Kb t x lo hi hd ho h
  exact h.elim
end
structure Fl where
  rL:Bool:=false
  wL:Bool:=false
  rO:Bool:=false
  wO:Bool:=false
  deriving DecidableEq
def hC(op:Op):List Nat:=op.operands.toList.filterMap bR
structure Delta where
  sets:List (Nat×Slot)
  loc:Option (List (List D))
  obj:Option (List (List D))
def eR:List (Nat×Slot)->(Nat->Slot)->Nat->Slot
  | [],e=>e
  | (a,s)::r,e=>eR r (fun u=>if u=a then s else e u)
def St.upd(st:St)(δ:Delta):St:= { n:=st.n,env:=eR δ.sets st.env,loc:=δ.loc.getD st.loc,obj:=δ.obj.getD st.obj }
abbrev lL:=List (Nat×Slot)->Option (List (List D))->Prop
def rI(k:Nat)(z:Array Value):D:=if k=1 then(match z[0]? with | some x=>(D.ofV1 x).s1 | none=> .any)else .agg (z.toList.map fun x=>(D.ofV1 x).s1)
abbrev D.nilS:D:= .v (.slice none 0 0)
variable {ob:Option (List (List D))}{obj:List (List D)}
def Jm(d:Int):Option Slot->Option Int
  | none=>some d
  | some (.d (.v (.int _ n)))=>some n
  | _=>none
theorem sP(st:St)(d:Int)(x:Option Operand):Jm d (x.map st.rdS)=eY st d x:=by
  cases x with
  | none=>rfl
  | some x =>
    unfold eY St.rd;simp only [eT];cases h:st.rdS x with
    | lref n o=>rfl
    | d d =>
      cases d with
      | v v=>cases v <;> rfl
      | _=>rfl
section
variable {P:Program}
def xR (P : Program) (dst : Option Tmp) (t : TypeId) (x : Operand) (sx : Slot) (lo hi : Option Slot) : lL := fun sets ob =>
  match dst,sx with
  | some d, .d (.ref m off) => match aBi P t with
    | some (len, k) => match Jm 0 lo, Jm len hi with
      | some l,some h=>(0<=l/\l<=h/\h<=len/\len<=maxLen)/\sets= [(d,.d (.slo m (off+l.toNat * k) (h.toNat - l.toNat) (len - l.toNat)))]/\ob=none
      | _,_=>False
    | none=>False
  | some d, .d (.v (.slice none 0 0)) => match fA P t with
    | some _ => match Jm 0 lo, Jm 0 hi with
      | some l,some h=>(l=0/\h=0)/\sets= [(d,.d .nilS)]/\ob=none
      | _,_=>False
    | none=>False
  | some d, .d (.xs k es) => match fA P t, x with
    | some (_, k', _, _), .tmp ts => match Jm 0 lo, Jm es.length hi with
      | some l,some h=>(k'=k/\l=0/\0<=h/\h<=es.length/\ts≠d)/\sets= [(ts,.d .any),(d,.d (.xs k (es.take h.toNat)))]/\ob=none
      | _,_=>False
    | _,_=>False
  | _,_=>False
def Ge (P : Program) (alt : Bool) (dst : Option Tmp) (t : TypeId) (sl sc : Slot) (obj : List (List D)) : lL := fun sets ob =>
  match dst,fA P t,sl,sc with
  | some d, some (_, k, by_, z), .d (.v (.int _ n)), .d (.v (.int _ n')) => (n' = n /\ 0 <= n /\ by_ * n <= 281474976710656 /\ n <= maxLen /\ (∀ c ∈ z.toList, c.oneCell' = true)) /\
    (if alt=true then sets= [(d,.d (.xs k (List.replicate n.toNat (rI k z))))]/\ob=none
     else sets= [(d,.d (.slo obj.length 0 n.toNat n.toNat))]/\ob=some (obj++ [gN z n.toNat]))
  | _,_,_,_=>False
def Sh(P:Program)(dst:Option Tmp)(t:TypeId)(sx:Slot):lL:=fun sets ob=>
  match dst,sx with
  | some d,.d (.slo _ _ _ cap)=>(∃e,P.underlying t=some (.slice e))/\sets= [(d,.d (.int cap))]/\ob=none
  | some d,.d (.v (.slice none 0 0))=>(∃e,P.underlying t=some (.slice e))/\sets= [(d,.d (.int 0))]/\ob=none
  | _,_=>False
def Wd(P:Program)(dst:Option Tmp)(t:TypeId)(sx:Slot):lL:=fun sets ob=>
  match dst,sx with
  | some d,.d (.v (.slice none 0 0))=>(∃e,P.underlying t=some (.slice e))/\sets= [(d,.d (.int 0))]/\ob=none
  | _,_=>False
def Sm(obj:List (List D))(k:Nat)(s:Slot)(xs:List D):Prop:=
  match s with
  | .d (.slo m a len _)=>xs.length=len/\∃cs,obj[m]?=some cs/\xs.flatMap D.cells<+:cs.drop a
  | .d (.sl _ es)=>xs=es
  | _=>False
def sT (P : Program) (dst : Option Tmp) (t t2 : TypeId) (x : Operand) (sb ss : Slot) (obj : List (List D)) : lL := fun sets ob =>
  match dst,fA P t,x with
  | some d, some (_, k, by_, z), .tmp ts =>
    match ss with
    | .d (.v (.int _ n)) => match sb with
      | .d (.v (.slice none 0 0))=>(P.underlying t2=some (.int .i64)/\0<=n/\n * by_<=140737488355328/\n<=maxLen/\ts≠d/\(∀c∈z.toList,c.oneCell'=true))/\sets= [(ts,.d .any),(d,.d (.xs k (List.replicate n.toNat (rI k z))))]/\ob=none
      | .d (.slo _ _ len cap)=>∃xs,(P.underlying t2=some (.int .i64)/\Sm obj k sb xs/\(∀y∈xs,y.ncells=k/\y.arr=true)/\0<=n/\(cap:Int)<len+n/\(len+n) * by_<=140737488355328/\len+n<=maxLen/\ts≠d/\(∀c∈z.toList,c.oneCell'=true))/\sets= [(ts,.d .any),(d,.d (.xs k (xs++List.replicate n.toNat (rI k z))))]/\ob=none
      | _=>False
    | _ => ∃ xs, ((∃ e2, P.underlying t2 = some (.slice e2)) /\ Sm obj k ss xs /\ (∀ y ∈ xs, y.ncells = k /\ y.arr = true) /\ ts ≠ d /\ (∀ c ∈ z.toList, c.oneCell' = true)) /\
      match sb with
      | .d (.xs k' es)=>(k'=k/\(es.length+xs.length) * by_<=140737488355328/\es.length+xs.length<=maxLen)/\sets= [(ts,.d .any),(d,.d (.xs k (es++xs)))]/\ob=none
      | .d (.v (.slice none 0 0))=>(xs.length * by_<=140737488355328/\xs.length<=maxLen)/\sets= [(ts,.d .any),(d,.d (.xs k xs))]/\ob=none
      | .d (.sl true [])=>(xs.length * by_<=140737488355328/\xs.length<=maxLen)/\sets= [(ts,.d .any),(d,.d (.xs k xs))]/\ob=none
      | _=>False
  | _,_,_=>False
def Eb (P : Program) (alt : Bool) (dst : Option Tmp) (t t2 : TypeId) (sd ss : Slot) (obj : List (List D)) : lL := fun sets ob =>
  match fA P t,sd with
  | some (_, k, _, _), .d (.slo m a dl _) => (∃ e2, P.underlying t2 = some (.slice e2)) /\
    (if alt = true then match ss with
      | .d (.slo m' a' sl' _) => match obj[m]? with
        | some cs=>(m'=m/\k=1/\min sl' dl=1/\a≠a'/\a<cs.length/\a'<cs.length)/\sets=dst.toList.map (fun d=>(d,.d (.int 1)))/\ob=some (obj.set m ((cs.set a (cs.getD a' .any)).set a' (cs.getD a' .any).s1))
        | none=>False
      | _=>False
     else ∃xs cs,(Sm obj k ss xs/\(∀y∈xs,y.ncells=k/\y.arr=true)/\obj[m]?=some cs/\a+min xs.length dl * k<=cs.length)/\sets=dst.toList.map (fun d=>(d,.d (.int (min xs.length dl:Nat))))/\ob=some (obj.set m (dE cs a ((xs.take (min xs.length dl)).flatMap D.cells))))
  | _,_=>False
theorem Kl {lo hi:Option Slot} (h:xR P dst t x sx lo hi sets ob):(∀p∈sets,p.1∈dst.toList++(bR x).toList)/\ob=none:=by
  unfold xR at h
  repeat' split at h
  all_goals first | exact h.elim | skip
  all_goals obtain⟨_,rfl,rfl⟩:=h
  all_goals exact⟨by simp [bR],rfl⟩
theorem Mv {alt:Bool} {sl sc:Slot} (h:Ge P alt dst t sl sc obj sets ob):(∀p∈sets,p.1∈dst.toList)/\(ob.isSome=true->alt=false):=by
  unfold Ge at h;split at h
  . obtain ⟨_, h⟩ := h
    split at h
    . obtain⟨rfl,rfl⟩:=h;exact⟨by simp,by simp⟩
    rename_i ha;obtain⟨rfl,rfl⟩:=h;exact⟨by simp,fun _=>by simpa using ha⟩
  exact h.elim
theorem Vq (h:Sh P dst t sx sets ob):(∀p∈sets,p.1∈dst.toList)/\ob=none:=by
  unfold Sh at h;split at h
  all_goals first | exact h.elim | skip
  all_goals obtain⟨_,rfl,rfl⟩:=h
  all_goals exact⟨by simp,rfl⟩
theorem Vh (h:Wd P dst t sx sets ob):(∀p∈sets,p.1∈dst.toList)/\ob=none:=by
  unfold Wd at h;split at h
  all_goals first | exact h.elim | skip
  all_goals obtain⟨_,rfl,rfl⟩:=h
  all_goals exact⟨by simp,rfl⟩
theorem Ib {t2:TypeId} {sb ss:Slot} (h:sT P dst t t2 x sb ss obj sets ob):(∀p∈sets,p.1∈dst.toList++(bR x).toList)/\ob=none:=by
  unfold sT at h;split at h
  . split at h
    . split at h
      all_goals first | exact h.elim | skip
      all_goals first | obtain⟨_,rfl,rfl⟩:=h | obtain⟨_,_,rfl,rfl⟩:=h
      all_goals exact⟨by simp [bR],rfl⟩
    obtain⟨xs,_,h⟩:=h;split at h
    all_goals first | exact h.elim | skip
    all_goals obtain⟨_,rfl,rfl⟩:=h
    all_goals exact⟨by simp [bR],rfl⟩
  exact h.elim
theorem Nl {alt : Bool} {t2:TypeId} {sd ss : Slot} (h : Eb P alt dst t t2 sd ss obj sets ob) : ∀ p ∈ sets, p.1 ∈ dst.toList := by
  have key:∀(s:Slot),∀p∈dst.toList.map (fun d=>(d,s)),p.1∈dst.toList:=fun s p hp=>by
    rw [bY] at hp;obtain⟨d,hd,rfl⟩:=hp;exact hd
  unfold Eb at h;split at h
  . obtain ⟨_, h⟩ := h
    split at h
    . split at h
      . split at h
        . obtain⟨_,rfl,rfl⟩:=h;exact key _
        exact h.elim
      exact h.elim
    obtain⟨_,_,_,rfl,rfl⟩:=h;exact key _
  exact h.elim
theorem cS {st:St} {d:D} (h:st.rdS x= .d d):st.rd x=d:=by unfold St.rd;rw [h]
theorem Jb(st:St)(d:Nat)(s:Slot):st.upd ⟨[(d,s)],none,none⟩=st.set d s:=rfl
theorem qM(st:St)(a b:Nat)(s r:Slot):st.upd ⟨[(a,s),(b,r)],none,none⟩=(st.set a s).set b r:=rfl
theorem Je {st : St} (t : TypeId) (x : Operand) (lo hi : Option Operand) (hd : dD o st) (ho : o.op = .slice t x lo hi none) 
    (h:xR P o.dst t x (st.rdS x) (lo.map st.rdS) (hi.map st.rdS) sets ob):Does P o st (· =st.upd ⟨sets,none,ob⟩):=by
  unfold xR at h;split at h
  . rename_i d m off hdst hx
    split at h
    . rename_i len k he
      rw [sP,sP] at h;split at h
      . rename_i l hh e1 e2
        obtain⟨⟨b1,b2,b3,b4⟩,rfl,rfl⟩:=h;obtain⟨e,i,h1,h2,h3⟩:=Fb he;refine bL hd (.d (.slo m (off+l.toNat * k) (hh.toNat - l.toNat) (len - l.toNat))) (fun w g tmps hok=>?_) (by rw [hdst];rfl);have hr:=hok.rd x;rw [cS hx] at hr;generalize hv:ev tmps x=v at hr;cases hr with
        | ref _ _ b hb =>
          have:=gM (P:=P) (isSlice:=false) hok (bD len) e1 e2 ⟨b1,b2,b3⟩;by_cases hml:len=l.toNat
          . refine ⟨.slice (some ⟨b, off, none⟩) (hh.toNat - l.toNat) (len - l.toNat), ?_, bC ?_ rfl⟩
            . subst hml
              simp [execOp,ho,Instr.sliceAt,hv,run_underlying h1,Instr.sureAddr,this,bH h2]
            exact .slo _ _ _ _ _ (by omega) (by omega) (by omega)
          refine⟨.slice (some ⟨b,off+l.toNat * k,none⟩) (hh.toNat - l.toNat) (len - l.toNat),?_,bC ?_ rfl⟩
          . simp [execOp,ho,Instr.sliceAt,hv,run_underlying h1,Instr.sureAddr,this,bH h2,hml,h3,Addr.add_none]
          exact .slo _ _ _ _ _ (fun h=>⟨b,hb,rfl⟩) (by omega) (by omega)
      exact h.elim
    exact h.elim
  . rename_i d hdst hx
    split at h
    . rename_i q he
      rw [sP,sP] at h;split at h
      . rename_i l hh e1 e2
        obtain⟨⟨rfl,rfl⟩,rfl,rfl⟩:=h;obtain⟨e,k,by_,z⟩:=q;obtain⟨ti,zv,h1,h2,h3,h4,h5,h6,h7,h8⟩:=gW he;refine bL hd (.d .nilS) (fun w g tmps hok=>?_) (by rw [hdst];rfl);have hr:=hok.rd x;rw [cS hx] at hr;have hv:=hr.vEq;have:=gM (P:=P) (isSlice:=true) hok (bD 0) e1 e2 ⟨pP _,pP _,pP _⟩;simp only [Int.toNat_zero] at this;exact⟨.slice none 0 0,by simp [execOp,ho,Instr.sliceAt,hv,run_underlying h1,Instr.slice,this,bH h2],bC (.v _ rfl) rfl⟩
      exact h.elim
    exact h.elim
  . rename_i d k es hdst hx
    split at h
    . rename_i e k' by_ z ts he
      rw [sP,sP] at h;split at h
      . rename_i l hh e1 e2
        obtain⟨⟨rfl,rfl,b2,b3,hne⟩,rfl,rfl⟩:=h;obtain⟨ti,zv,h1,h2,h3,h4,h5,h6,h7,h8⟩:=gW he;have hs:st.env ts= .d (.xs k' es):=hx;rw [qM];refine bE hd fun w g tmps hok=>?_;have hsl:=hok.slot ts;rw [hs] at hsl;obtain⟨hr,hown⟩:=hsl;have hvts:ev tmps (.tmp ts)=bQ tmps ts:=rfl;have hO:Ou w g.M g.bs g.X (.slot ts, []) k' es (bQ tmps ts):=by
          cases hown with
          | xs p k es v ho=>exact ho
          | flat p d v hf=>simp [D.flat] at hf
        generalize hv:bQ tmps ts=v at hr hO;cases hr with
        | xs _ _ a n cap hn hc hm ha =>
          subst hn;have hsb:=gM (P:=P) (isSlice:=true) hok hc e1 e2 ⟨pP _,b2,b3⟩;simp only [Int.toNat_zero] at hsb;have hlt:hh.toNat<=es.length:=by omega
          have hrun:(a=none\/∃b,a=some ⟨b,0,none⟩)\/cap=0->(execOp (ev tmps) o).run P w= .ok (.value (.slice a hh.toNat cap)) w:=by
            intro hab;by_cases hc0:cap=0
            . subst hc0
              simp [execOp,ho,Instr.sliceAt,hvts,hv,run_underlying h1,Instr.slice,hsb,bH h2]
            rcases hab with (rfl | ⟨b,rfl⟩) | h0
            . obtain⟨_,h0⟩:=ha rfl;exact absurd h0 hc0
            . simp [execOp,ho,Instr.sliceAt,hvts,hv,run_underlying h1,Instr.slice,hsb,bH h2,Addr.add_none]
            exact absurd h0 hc0
          rw [hdst];rcases hO with ⟨rfl,a1,e1⟩ | ⟨b,n,cap',cur,E,e1,o1,o2,o3,o4,o5,o6,o7,o8,o9,o10,o11⟩
          . simp only [Value.slice.injEq] at e1
            obtain⟨rfl,_,rfl⟩:=e1;have h0:hh.toNat=0:=by simpa using hlt
            rw [h0] at hrun |-;refine⟨_,w,g,_,.inl (hrun (.inr rfl)),rfl,Fr.refl w g,?_,rfl,by simp⟩;exact(hok.forget ts).set d _ _ ⟨.xs _ [] a 0 0 rfl (bD _) (cH _) (fun _=>⟨rfl,rfl⟩),.xs _ _ _ _ (.inl ⟨rfl,a,rfl⟩)⟩
          simp only [Value.slice.injEq] at e1;obtain⟨rfl,rfl,rfl⟩:=e1;have hlen:(es.take hh.toNat).length=hh.toNat:=by rw [bB];omega
          refine⟨_,w, { g with X:=fG (iF (.slot ts) [] (.slot d) []) g.X },_,.inl (hrun (.inl (.inr ⟨b,rfl⟩))),rfl,Fr.ren w g (iF (.slot ts) [] (.slot d) []),?_,rfl,by simp⟩;obtain⟨p1,_,_⟩:=hok.park ts _ hs (by simp) (iF (.slot ts) [] (.slot d) []) (fun t ht=>mD ht);have hget:∀(i:Nat) (d:D),(es.take hh.toNat)[i]?=some d->es[i]?=some d:=fun i d h=>by
            rw [dX] at h;split at h
            . exact h
            cases h
          have p2:=(p1.set d (.d (.xs k' (es.take hh.toNat))) (.slice (some ⟨b,0,none⟩) hh.toNat cap) ⟨.xs _ _ _ _ _ hlen.symm (by omega) o7 (by simp),.xs _ _ _ _ (.inr ⟨b,hh.toNat,cap,cur,E,rfl,?_,o2,o3,o4,hlen.symm,by omega,o7,o8,o9,fun i d hi=>o10 i d (hget i d hi),fun i d j e hi hj=>o11 i d j e (hget i d hi) hj⟩)⟩)
          . exact p2.forget2 hne
          show fG (iF (.slot ts) [] (.slot d) []) g.X b=some (.slot d, [])
          simp [fG,o1,iF]
      exact h.elim
    exact h.elim
  exact h.elim
end
end Go.Vm
