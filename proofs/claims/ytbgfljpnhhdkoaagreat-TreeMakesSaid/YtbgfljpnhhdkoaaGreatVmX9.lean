import Derived.Test.YtbgfljpnhhdkoaaGreatVmX3
import Derived.Lib.AppendZerosOnto
set_option linter.all false
namespace Go.Vm
open Go
variable {alt:Bool}{dst:Option Tmp}{g:Gh}{k:Nat}{o:Oper}{sets:List (Nat×Slot)}{sx:Slot}{t t2:TypeId}{ti:TypeInfo}{tmps z:Array Value}{w:World}{x:Operand}
section
variable {P:Program}
def Gu(P:Program)(dst:Option Tmp)(t:TypeId)(x:Operand)(st:St)(K:St->Prop):Prop:=
  (∃e,P.underlying t=some (.slice e))/\match st.rd x with
  | .xs _ es=>K (st.put dst (.d (.int es.length)))
  | .xl n=>K (st.put dst (.d (.int n)))
  | .slo _ _ len _=>K (st.put dst (.d (.int len)))
  | _=>False
theorem aF7 {st:St} {K:St->Prop} (t:TypeId)(x:Operand)(hd:eF o st)(ho:o.op= .call { callee:= .builtin .len,args:=#[x],argTypes:=#[t] })(h:Gu P o.dst t x st K):Does P o st K:=by
  obtain⟨⟨e,ht⟩,h⟩:=h;split at h
  . rename_i k es hx
    refine cM hd _ (fun w g tmps hok=>?_) h;have hr:=hok.rd x;rw [hx] at hr;generalize hv:ev tmps x=v at hr;refine⟨.int .i64 es.length,?_,bV (.v _ rfl) rfl⟩;cases hr with
    | xs _ _ a n cap hn=>simp [execOp,ho,resolve,invoke,builtin,Builtin.len_,hv,run_underlying ht,goInt,hn]
  . rename_i n hx
    refine cM hd _ (fun w g tmps hok=>?_) h;have hr:=hok.rd x;rw [hx] at hr;generalize hv:ev tmps x=v at hr;refine⟨.int .i64 n,?_,bV (.v _ rfl) rfl⟩;cases hr with
    | xl a _ cap=>simp [execOp,ho,resolve,invoke,builtin,Builtin.len_,hv,run_underlying ht,goInt]
  . rename_i m a len cap hx
    refine cM hd _ (fun w g tmps hok=>?_) h;have hr:=hok.rd x;rw [hx] at hr;generalize hv:ev tmps x=v at hr;refine⟨.int .i64 len,?_,bV (.v _ rfl) rfl⟩;cases hr with
    | slo _ _ _ _ x hb hc hm=>simp [execOp,ho,resolve,invoke,builtin,Builtin.len_,hv,run_underlying ht,goInt]
  exact h.elim
def lV(P:Program)(dst:Option Tmp)(t:TypeId)(x i:Operand)(st:St)(K:St->Prop):Prop:=
  match st.rd i,kD P t,st.rd x with
  | .v (.int _ n),some (_,k,_,_),.slo m a len _=>(0<=n/\n<len)/\K (st.put dst (.d (.ref m (a+n.toNat * k))))
  | _,_,_=>False
theorem Ij {st:St} {K:St->Prop} (t:TypeId)(x i:Operand)(hd:eF o st)(ho:o.op= .indexAddr t x i)(h:lV P o.dst t x i st K):Does P o st K:=by
  unfold lV at h;split at h
  . rename_i kk n e k by_ z m a len cap hi he hx
    obtain⟨ti,zv,h1,h2,h3,h4,h5,h6,h7,h8⟩:=jI he;obtain⟨⟨hn0,hn1⟩,hK⟩:=h;refine cM hd _ (fun w g tmps hok=>?_) hK;have hr:=hok.rd x;rw [hx] at hr;have hri:=hok.rd i;rw [hi] at hri;have hiv:=hri.int;generalize hv:ev tmps x=v at hr;cases hr with
    | slo _ _ _ _ x hb hc hm =>
      obtain⟨b,hb2,rfl⟩:=hb (by omega);refine⟨.pointer (some ⟨b,a+n.toNat * k,none⟩),?_,bV (.ref _ _ b hb2) rfl⟩;have hc2:0<=n/\n<(len:Int):=⟨hn0,hn1⟩;simp [execOp,ho,Instr.indexAt,hv,hiv,asIntOf,run_underlying h1,cD h2,h5,hc2,Addr.add_none]
  exact h.elim
def tA (P : Program) (dst : Option Tmp) (t : TypeId) (x : Operand) (lo hi : Option Operand) (st : St) (K : St -> Prop) : Prop :=
  match kD P t,st.rd x with
  | some (_, k, _, _), .slo m a len cap => match gN st 0 lo, gN st len hi with
    | some l,some h=>(0<=l/\l<=h/\(h<=len\/h<=cap))/\K (st.put dst (.d (.slo m (a+l.toNat * k) (h.toNat - l.toNat) (cap - l.toNat))))
    | _,_=>False
  | _,_=>False
theorem Hf {st:St} (hok:Ok w g st (cJ tmps)) {isSlice:Bool} {len cap:Nat} {lo hi:Option Operand} {l h:Int} (hcap:len<=cap)
    (h1:gN st 0 lo=some l) (h2:gN st len hi=some h) (hb:0<=l/\l<=h/\(h<=len\/h<=cap)):
    (Instr.sliceBounds isSlice len cap (lo.map (ev tmps)) (hi.map (ev tmps)) none).run P w= .ok (l.toNat,h.toNat,cap) w:=by
  obtain⟨b1,b2,b3⟩:=hb;rcases nV hok h1 with ⟨rfl,rfl⟩ | ⟨y,k,rfl,e1⟩ <;> rcases nV hok h2 with ⟨rfl,rfl⟩ | ⟨z,k',rfl,e2⟩
  . simp [Instr.sliceBounds]
  . simp [Instr.sliceBounds,e2,eT (P:=P) (w:=w) (k:=k') (i:=h) (y:=cap) (code:=if isSlice=true then .sliceAcap else .sliceAlen) (by omega)]
  . have := eT (P := P) (w := w) (k := k) (i := l) (y := len) (code := .sliceB) (by omega)
    simp [Instr.sliceBounds,e1,this]
  have a1:=eT (P:=P) (w:=w) (k:=k') (i:=h) (y:=cap) (code:=if isSlice=true then .sliceAcap else .sliceAlen) (by omega);have a2:=eT (P:=P) (w:=w) (k:=k) (i:=l) (y:=h.toNat) (code:= .sliceB) (by omega);simp [Instr.sliceBounds,e1,e2,a1,a2]
theorem Tu {st : St} {K : St -> Prop} (t : TypeId) (x : Operand) (lo hi : Option Operand) (hd : eF o st) (ho : o.op = .slice t x lo hi none) (h : tA P o.dst t x lo hi st K) : Does P o st K := by
  unfold tA at h;split at h
  . rename_i e k by_ z m a len cap he hx
    obtain⟨ti,zv,h1,h2,h3,h4,h5,h6,h7,h8⟩:=jI he;split at h
    . rename_i l hh e1 e2
      obtain⟨hb,hK⟩:=h;refine cM hd _ (fun w g tmps hok=>?_) hK;have hr:=hok.rd x;rw [hx] at hr;generalize hv:ev tmps x=v at hr;cases hr with
      | slo _ _ _ _ x hbs hc hm =>
        have:=Hf (P:=P) (isSlice:=true) hok hc e1 e2 hb;obtain⟨b1,b2,b3⟩:=hb;by_cases hml:cap=l.toNat
        . refine ⟨.slice x (hh.toNat - l.toNat) (cap - l.toNat), ?_, bV ?_ rfl⟩
          . subst hml
            cases x <;> simp [execOp,ho,Instr.sliceAt,hv,run_underlying h1,Instr.slice,this,cD h2]
          exact .slo _ _ _ _ x (by omega) (by omega) (by omega)
        obtain⟨b,hbs2,rfl⟩:=hbs (by omega);refine⟨.slice (some ⟨b,a+l.toNat * k,none⟩) (hh.toNat - l.toNat) (cap - l.toNat),?_,bV ?_ rfl⟩
        . simp [execOp,ho,Instr.sliceAt,hv,run_underlying h1,Instr.slice,this,cD h2,hml,h5,Addr.add_none]
        exact .slo _ _ _ _ _ (fun h=>⟨b,hbs2,rfl⟩) (by omega) (by omega)
    exact h.elim
  exact h.elim
def jK(z:Array Value)(n:Nat):List D:=(List.replicate n (z.toList.map D.ofV1)).flatten
def vM (P : Program) (dst : Option Tmp) (t : TypeId) (x : Operand) (st : St) (K : St -> Prop) : Prop :=
  dst=none/\match kD P t,st.rd x with
  | some (_, k, _, z), .slo m a len _ => match st.obj[m]? with
    | some cs=>(a+len * k<=cs.length/\∀c∈z.toList,c.oneCell'=true)/\K { st with obj:=st.obj.set m (dZ cs a (jK z len)) }
    | none=>False
  | _,_=>False
theorem jX (hz:z.size=k):∀n,(jK z n).length=n * k
  | 0=>by simp [jK]
  | n + 1 => by
    have:=jX hz n;simp only [jK] at *;rw [Ek,nU,aZ,this];simp [hz,dB,sK]
theorem Kx (hz:0<z.size)(n:Nat):(Builtin.zeroCells z (n+1)).toList=z.toList++(Builtin.zeroCells z n).toList:=by
  apply qF;intro i;simp only [Builtin.zeroCells,Array.toList_map,Array.toList_range,cF];by_cases hi:i<z.size
  . rw [bC (by simpa using hi)]
    have:i<(n+1) * z.size:=by rw [dB];omega
    rw [sM this];simp [sQ hi,hi]
  rw [bX (by simpa using hi),cF];by_cases h2:i<(n+1) * z.size
  . have h3 : i - z.size < n * z.size := by rw [dB] at h2; omega
    rw [sM h2,cG,sM h3];have:i % z.size=(i - z.size) % z.size:=by
      have:=Gi (i - z.size) z.size;rw [show i - z.size+z.size=i by omega] at this;exact this
    simp [this]
  have h3:¬i - z.size<n * z.size:=by rw [dB] at h2;omega
  rw [iR (by simpa using h2),cG,iR (by simpa using h3)]
theorem Fc {M:Mem} {bs:List Nat} {z:Array Value} (hz:0<z.size):∀n (i:Nat) (d:D) (x:Value),(jK z n)[i]?=some d->(Builtin.zeroCells z n).toList[i]?=some x->d=D.ofV1 x/\x∈z.toList
  | 0,i,d,x,h,_=>by simp [jK] at h
  | n + 1, i, d, x, h, h' => by
    rw [Kx hz] at h';simp only [jK,Ek,nU] at h;by_cases hi:i<z.size
    . rw [bC (by simpa using hi), cF] at h
      rw [bC (by simpa using hi)] at h';rw [h'] at h;simp at h;exact⟨h.symm,bE h'⟩
    rw [bX (by simpa using hi)] at h;rw [bX (by simpa using hi)] at h';simp only [bQ,cG] at h h';exact Fc (M:=M) (bs:=bs) hz n _ d x h h'
theorem Xo {st : St} {K : St -> Prop} (t : TypeId) (x : Operand) (hd : eF o st) (ho : o.op = .call { callee := .builtin .clear, args := #[x], argTypes := #[t] }) (h : vM P o.dst t x st K) : Does P o st K := by
  obtain⟨hdst,h⟩:=h;split at h
  . rename_i e k by_ z m a len cap he hx
    obtain⟨ti,zv,h1,h2,h3,h4,h5,h6,h7,h8⟩:=jI he;split at h
    . rename_i cs hcs
      obtain⟨⟨hfit,hz1⟩,hK⟩:=h;refine cH hd fun w g tmps hok=>?_;have hr:=hok.rd x;rw [hx] at hr;generalize hv:ev tmps x=v at hr;cases hr with
      | slo _ _ _ _ xa hbs hc hm=>
      have hml:m<st.obj.length:=(aP.1 hcs).1;rw [hdst];by_cases hlen:len=0
      . subst hlen
        refine⟨.tuple #[],w,g,_,.inl (by cases xa <;> simp [execOp,ho,resolve,invoke,builtin,Builtin.clear_,hv,run_underlying h1]),hK,Fr.refl w g,?_,rfl,by simp⟩;have:dZ cs a (jK z 0)=cs:=by simp [dZ,jK]
        rw [this];have e:({ st with obj:=st.obj.set m cs } :St)=st:=by
          have:st.obj.set m cs=st.obj:=by
            apply qF;intro i;rw [cL];split
            . rename_i e;subst e;exact hcs.symm
            rfl
          rw [this]
        rw [e];exact hok
      obtain⟨b,hbs2,rfl⟩:=hbs (by omega);have hne:cs≠ []:=by
        intro e;subst e;have h0:a+len * k<=0:=by simpa using hfit
        have:0<len * k:=qA (by omega) h8;omega
      obtain⟨cur,E,o1,o2,o3,o4,o5⟩:=(hok.obj m b cs hbs2 hcs).resolve_left hne;have hzs:z.size=k:=h7;have hzl:(Builtin.zeroCells z len).toList.length=len * k:=by rw [cG,size_zeroCells,hzs]
      have hone:∀c∈(Builtin.zeroCells z len).toList,c.oneCell'=true:=fun c hc=>hz1 c (mN hc (by omega));have hrun:=run_storeCells_at P b a E (Builtin.zeroCells z len).toList 0 cur w o1 (by rw [hzl,o2];omega) hone;simp only [kK] at hrun;have hdl:(jK z len).length=len * k:=jX hzs len;have e1:a+(jK z len).length<=cs.length:=by rw [hdl];exact hfit
      have e2:a+(Builtin.zeroCells z len).toList.length<=cur.toList.length:=by rw [hzl,cG,o2];exact hfit
      obtain⟨k6,k7⟩:=hok.writeObj m b (dZ cs a (jK z len)) (cur.toList.take a++(Builtin.zeroCells z len).toList++cur.toList.drop (a+(Builtin.zeroCells z len).toList.length)).toArray hbs2 (by rw [hcs];simpa using hne)
        (by rw [dX,iS e2];unfold dZ;rw [iS e1,cG,o2])
        (fun i d y a1 a2=>by
          unfold dZ at a1;rw [fH e1,hdl] at a1;rw [fZ,fH e2,hzl] at a2;by_cases c1:i<a
          . simp only [c1, aU] at a1 a2
            exact o5 i d y a1 (by simpa using a2)
          simp only [c1,bK] at a1 a2;by_cases c2:i<a+len * k
          . simp only [c2, aU] at a1 a2
            obtain⟨rfl,hy⟩:=Fc (M:=g.M) (bs:=g.bs) (by omega) len _ d y a1 a2;exact⟨R.ofV1 _ _ _,Mg y,hz1 y hy⟩
          simp only [c2,bK] at a1 a2;exact o5 i d y a1 (by simpa using a2))
      refine⟨.tuple #[],_,_,_,.inl ?_,hK,k7,k6,rfl,by simp⟩;have hlen':∃n,len=n+1:=⟨len - 1,by omega⟩;obtain⟨n,rfl⟩:=hlen';have hzv:(zeroValue e).run P w= .ok zv w:=by simp [zeroValue,typeInfo,h2,h3]
      rw [<- h4] at hrun;simp [execOp,ho,resolve,invoke,builtin,Builtin.clear_,hv,run_underlying h1,hzv,hrun];rw [h4]
    exact h.elim
  exact h.elim
def qG (P : Program) (dst : Option Tmp) (t t2 : TypeId) (s x : Operand) (st : St) (K : St -> Prop) : Prop :=
  match kD P t,dst,s,st.rd x with
  | some (_, k, by_, z), some d, .tmp ts, .sl _ xs => ((∃ e2, P.underlying t2 = some (.slice e2)) /\ (∀ c ∈ z.toList, c.oneCell' = true)) /\ (∀ y ∈ xs, y.ncells = k /\ y.arr = true) /\ ts ≠ d /\
    match st.env ts with
    | .d (.xs k' es)=>(k'=k/\(es.length+xs.length) * by_<=140737488355328/\es.length+xs.length<=maxLen)/\K ((st.set ts .any).set d (.d (.xs k (es++xs))))
    | .d (.sl true [])=>(xs.length * by_<=140737488355328/\xs.length<=maxLen)/\K ((st.set ts .any).set d (.d (.xs k xs)))
    | .d (.slo N a len cap)=>∃ds es,(a=0/\st.obj[N]?=some ds/\ds.length=cap * k/\es.length=len/\(∀d∈es,d.ncells=k/\d.arr=true)/\es.flatMap D.cells<+:ds/\(es.length+xs.length) * by_<=140737488355328/\es.length+xs.length<=maxLen)/\K ((({ st with obj:=st.obj.set N [] } :St).set ts .any).set d (.d (.xs k (es++xs))))
    | _=>False
  | _,_,_,_=>False
theorem Rm {st : St} {K : St -> Prop} (t t2 : TypeId) (s x : Operand) (hd : eF o st) (ho : o.op = .call { callee := .builtin .append, args := #[s, x], argTypes := #[t, t2] }) (h : qG P o.dst t t2 s x st K) : Does P o st K := by
  unfold qG at h;split at h
  . rename_i e k by_ z d ts ow xs he hdst hx
    obtain⟨ti,zv,h1,h2,h3,h4,h5,h6,h7,h8⟩:=jI he;obtain⟨⟨⟨e2,ht2⟩,hz⟩,hxs,hne,h⟩:=h;have hrun:∀(tmps:Array Value) (w w':World) (v:Value),(Builtin.append_ #[t,t] o.type #[cJ tmps ts,ev tmps x]).run P w= .ok v w'->(execOp (ev tmps) o).run P w= .ok (.value v) w':=by
      intro tmps w w' v hr;rw [<- vT (ty:=o.type) h1 ht2] at hr;have:cJ tmps ts=ev tmps (.tmp ts):=rfl;rw [this] at hr;simp [execOp,ho,resolve,invoke,builtin,hr]
    split at h
    . rename_i k' es hs
      obtain⟨⟨rfl,hb,hm⟩,hK⟩:=h;refine cH hd fun w g tmps hok=>?_;obtain⟨v,w',g',r1,r2,r3,r4⟩:=jO hok h1 h2 h3 h5 h6 (by rw [h4];exact h7) h8 (by rw [h4];exact hz) ts d hne es xs _ hs (.inl rfl) (ev tmps x) (Cq hok (by have:=hok.rd x;rwa [hx] at this) fun d hd=>(hxs d hd).1) hb hm hxs o.type;exact⟨v,w',g',_,.inl (hrun tmps w w' v r1),hK,r3,by rw [hdst];exact r4,rfl,by rw [r2];simp⟩
    . rename_i hs
      obtain⟨⟨hb,hm⟩,hK⟩:=h;refine cH hd fun w g tmps hok=>?_;obtain⟨v,w',g',r1,r2,r3,r4⟩:=jO hok h1 h2 h3 h5 h6 (by rw [h4];exact h7) h8 (by rw [h4];exact hz) ts d hne [] xs _ hs (.inr (.inl ⟨rfl,rfl⟩)) (ev tmps x) (Cq hok (by have:=hok.rd x;rwa [hx] at this) fun d hd=>(hxs d hd).1) (by simpa using hb) (by simpa using hm) hxs o.type;exact⟨v,w',g',_,.inl (hrun tmps w w' v r1),hK,r3,by rw [hdst];exact r4,rfl,by rw [r2];simp⟩
    . rename_i N a len cap hs
      obtain⟨ds,es,⟨rfl,hN,hdl,hel,hes,hpre,hb,hm⟩,hK⟩:=h;refine cH hd fun w g tmps hok=>?_;obtain⟨g1,q1,q2,q3⟩:=hok.closeX ts k N len cap es ds hs hN h8 hdl hel hes hpre;have hR:R g1.M g1.bs (.sl ow xs) (ev tmps x):=by
        have:=hok.rd x;rw [hx] at this;exact this.mono q2.mono q2.bs
      obtain⟨v,w',g',r1,r2,r3,r4⟩:=jO q3 h1 h2 h3 h5 h6 (by rw [h4];exact h7) h8 (by rw [h4];exact hz) ts d hne es xs _ (by simp [St.set]) (.inl rfl) (ev tmps x) (Cq q3 hR fun d hd=>(hxs d hd).1) hb hm hxs o.type;have e:(({ st.set ts (.d (.xs k es))with obj:=st.obj.set N [] } :St).set ts .any)=({ st with obj:=st.obj.set N [] } :St).set ts .any:=by
        simp only [St.set];congr 1;funext u;by_cases hu:u=ts <;> simp [hu]
      rw [e] at r4;exact⟨v,w',g',_,.inl (hrun tmps w w' v r1),hK,q2.trans r3,by rw [hdst];exact r4,rfl,by rw [r2,q1];simp⟩
    exact h.elim
  exact h.elim
def vcX (P : Program) (dst : Option Tmp) (op : Op) (st : St) (K : St -> Prop) : Prop := match op with
  | .call ⟨.builtin .len, args, ts⟩ => match args.toList, ts.toList with
    | [x], [t]=>Gu P dst t x st K
    | _,_=>False
  | .call ⟨.builtin .append, args, ts⟩ => match args.toList, ts.toList with
    | [s,x], [t,t2]=>qG P dst t t2 s x st K
    | _,_=>False
  | .call ⟨.builtin .clear, args, ts⟩ => match args.toList, ts.toList with
    | [x], [t]=>vM P dst t x st K
    | _,_=>False
  | .indexAddr t x i=>lV P dst t x i st K
  | .slice t x lo hi none=>tA P dst t x lo hi st K
  | _=>False
theorem aTa {st:St} {K:St->Prop} (hd:eF o st)(h:vcX P o.dst o.op st K):Does P o st K:=by
  have a1:∀ {α:Type} {a:Array α} {x:α},a.toList= [x]->a=#[x]:=fun h=>vA.1 h;have a2:∀ {α:Type} {a:Array α} {x y:α},a.toList= [x,y]->a=#[x,y]:=fun h=>vA.1 h;unfold vcX at h;split at h
  . rename_i args ts ho
    split at h
    . rename_i x t h1 h2;rw [a1 h1,a1 h2] at ho;exact aF7 t x hd ho h
    exact h.elim
  . rename_i args ts ho
    split at h
    . rename_i s x t t2 h1 h2;rw [a2 h1,a2 h2] at ho;exact Rm t t2 s x hd ho h
    exact h.elim
  . rename_i args ts ho
    split at h
    . rename_i x t h1 h2;rw [a1 h1,a1 h2] at ho;exact Xo t x hd ho h
    exact h.elim
  . rename_i t x i ho;exact Ij t x i hd ho h
  . rename_i t x lo hi ho;exact Tu t x lo hi hd ho h
  exact h.elim
end
structure Fl where
  rL:Bool:=false
  wL:Bool:=false
  rO:Bool:=false
  wO:Bool:=false
  deriving DecidableEq
def kE(op:Op):List Nat:=op.operands.toList.filterMap cO
structure Delta where
  sets:List (Nat×Slot)
  loc:Option (List (List D))
  obj:Option (List (List D))
def gA:List (Nat×Slot)->(Nat->Slot)->Nat->Slot
  | [],e=>e
  | (a,s)::r,e=>gA r (fun u=>if u=a then s else e u)
def St.upd(st:St)(δ:Delta):St:= { n:=st.n,env:=gA δ.sets st.env,loc:=δ.loc.getD st.loc,obj:=δ.obj.getD st.obj }
variable {st:St}
abbrev pW:=List (Nat×Slot)->Option (List (List D))->Prop
def vZ(k:Nat)(z:Array Value):D:=if k=1 then(match z[0]? with | some x=>(D.ofV1 x).s1 | none=> .any)else .agg (z.toList.map fun x=>(D.ofV1 x).s1)
abbrev D.nilS:D:= .v (.slice none 0 0)
variable {ob:Option (List (List D))}{obj:List (List D)}
def Xh(d:Int):Option Slot->Option Int
  | none=>some d
  | some (.d (.v (.int _ n)))=>some n
  | _=>none
theorem xX(st:St)(d:Int)(x:Option Operand):Xh d (x.map st.rdS)=gN st d x:=by
  cases x with
  | none=>rfl
  | some x =>
    unfold gN St.rd;simp only [gJ];cases h:st.rdS x with
    | lref n o=>rfl
    | d d =>
      cases d with
      | v v=>cases v <;> rfl
      | _=>rfl
section
variable {P:Program}
def Ga (P : Program) (dst : Option Tmp) (t : TypeId) (x : Operand) (sx : Slot) (lo hi : Option Slot) : pW := fun sets ob =>
  match dst,sx with
  | some d, .d (.ref m off) => match aQd P t with
    | some (len, k) => match Xh 0 lo, Xh len hi with
      | some l,some h=>(0<=l/\l<=h/\h<=len/\len<=maxLen)/\sets= [(d,.d (.slo m (off+l.toNat * k) (h.toNat - l.toNat) (len - l.toNat)))]/\ob=none
      | _,_=>False
    | none=>False
  | some d, .d (.v (.slice none 0 0)) => match kD P t with
    | some _ => match Xh 0 lo, Xh 0 hi with
      | some l,some h=>(l=0/\h=0)/\sets= [(d,.d .nilS)]/\ob=none
      | _,_=>False
    | none=>False
  | some d, .d (.xs k es) => match kD P t, x with
    | some (_, k', _, _), .tmp ts => match Xh 0 lo, Xh es.length hi with
      | some l,some h=>(k'=k/\l=0/\0<=h/\h<=es.length/\ts≠d)/\sets= [(ts,.d .any),(d,.d (.xs k (es.take h.toNat)))]/\ob=none
      | _,_=>False
    | _,_=>False
  | _,_=>False
def Pv (P : Program) (alt : Bool) (dst : Option Tmp) (t : TypeId) (sl sc : Slot) (obj : List (List D)) : pW := fun sets ob =>
  match dst,kD P t,sl,sc with
  | some d, some (_, k, by_, z), .d (.v (.int _ n)), .d (.v (.int _ n')) => (n' = n /\ 0 <= n /\ by_ * n <= 281474976710656 /\ n <= maxLen /\ (∀ c ∈ z.toList, c.oneCell' = true)) /\
    (if alt=true then sets= [(d,.d (.xs k (List.replicate n.toNat (vZ k z))))]/\ob=none
     else sets= [(d,.d (.slo obj.length 0 n.toNat n.toNat))]/\ob=some (obj++ [jK z n.toNat]))
  | _,_,_,_=>False
def aEd(P:Program)(dst:Option Tmp)(t:TypeId)(sx:Slot):pW:=fun sets ob=>
  match dst,sx with
  | some d,.d (.slo _ _ _ cap)=>(∃e,P.underlying t=some (.slice e))/\sets= [(d,.d (.int cap))]/\ob=none
  | some d,.d (.v (.slice none 0 0))=>(∃e,P.underlying t=some (.slice e))/\sets= [(d,.d (.int 0))]/\ob=none
  | _,_=>False
def aGp(P:Program)(dst:Option Tmp)(t:TypeId)(sx:Slot):pW:=fun sets ob=>
  match dst,sx with
  | some d,.d (.v (.slice none 0 0))=>(∃e,P.underlying t=some (.slice e))/\sets= [(d,.d (.int 0))]/\ob=none
  | _,_=>False
def aD4(obj:List (List D))(k:Nat)(s:Slot)(xs:List D):Prop:=
  match s with
  | .d (.slo m a len _)=>xs.length=len/\∃cs,obj[m]?=some cs/\xs.flatMap D.cells<+:cs.drop a
  | .d (.sl _ es)=>xs=es
  | _=>False
def yL (P : Program) (dst : Option Tmp) (t t2 : TypeId) (x : Operand) (sb ss : Slot) (obj : List (List D)) : pW := fun sets ob =>
  match dst,kD P t,x with
  | some d, some (_, k, by_, z), .tmp ts =>
    match ss with
    | .d (.v (.int _ n)) => match sb with
      | .d (.v (.slice none 0 0))=>(P.underlying t2=some (.int .i64)/\0<=n/\n * by_<=140737488355328/\n<=maxLen/\ts≠d/\(∀c∈z.toList,c.oneCell'=true))/\sets= [(ts,.d .any),(d,.d (.xs k (List.replicate n.toNat (vZ k z))))]/\ob=none
      | .d (.slo _ _ len cap)=>∃xs,(P.underlying t2=some (.int .i64)/\aD4 obj k sb xs/\(∀y∈xs,y.ncells=k/\y.arr=true)/\0<=n/\(cap:Int)<len+n/\(len+n) * by_<=140737488355328/\len+n<=maxLen/\ts≠d/\(∀c∈z.toList,c.oneCell'=true))/\sets= [(ts,.d .any),(d,.d (.xs k (xs++List.replicate n.toNat (vZ k z))))]/\ob=none
      | _=>False
    | _ => ∃ xs, ((∃ e2, P.underlying t2 = some (.slice e2)) /\ aD4 obj k ss xs /\ (∀ y ∈ xs, y.ncells = k /\ y.arr = true) /\ ts ≠ d /\ (∀ c ∈ z.toList, c.oneCell' = true)) /\
      match sb with
      | .d (.xs k' es)=>(k'=k/\(es.length+xs.length) * by_<=140737488355328/\es.length+xs.length<=maxLen)/\sets= [(ts,.d .any),(d,.d (.xs k (es++xs)))]/\ob=none
      | .d (.v (.slice none 0 0))=>(xs.length * by_<=140737488355328/\xs.length<=maxLen)/\sets= [(ts,.d .any),(d,.d (.xs k xs))]/\ob=none
      | .d (.sl true [])=>(xs.length * by_<=140737488355328/\xs.length<=maxLen)/\sets= [(ts,.d .any),(d,.d (.xs k xs))]/\ob=none
      | _=>False
  | _,_,_=>False
def Og (P : Program) (alt : Bool) (dst : Option Tmp) (t t2 : TypeId) (sd ss : Slot) (obj : List (List D)) : pW := fun sets ob =>
  match kD P t,sd with
  | some (_, k, _, _), .d (.slo m a dl _) => (∃ e2, P.underlying t2 = some (.slice e2)) /\
    (if alt = true then match ss with
      | .d (.slo m' a' sl' _) => match obj[m]? with
        | some cs=>(m'=m/\k=1/\min sl' dl=1/\a≠a'/\a<cs.length/\a'<cs.length)/\sets=dst.toList.map (fun d=>(d,.d (.int 1)))/\ob=some (obj.set m ((cs.set a (cs.getD a' .any)).set a' (cs.getD a' .any).s1))
        | none=>False
      | _=>False
     else ∃xs cs,(aD4 obj k ss xs/\(∀y∈xs,y.ncells=k/\y.arr=true)/\obj[m]?=some cs/\a+min xs.length dl * k<=cs.length)/\sets=dst.toList.map (fun d=>(d,.d (.int (min xs.length dl:Nat))))/\ob=some (obj.set m (dZ cs a ((xs.take (min xs.length dl)).flatMap D.cells))))
  | _,_=>False
theorem Vs {lo hi:Option Slot} (h:Ga P dst t x sx lo hi sets ob):(∀p∈sets,p.1∈dst.toList++(cO x).toList)/\ob=none:=by
  unfold Ga at h
  repeat' split at h
  all_goals first | exact h.elim | skip
  all_goals obtain⟨_,rfl,rfl⟩:=h
  all_goals exact⟨by simp [cO],rfl⟩
theorem Zf {sl sc:Slot} (h:Pv P alt dst t sl sc obj sets ob):(∀p∈sets,p.1∈dst.toList)/\(ob.isSome=true->alt=false):=by
  unfold Pv at h;split at h
  . obtain ⟨_, h⟩ := h
    split at h
    . obtain⟨rfl,rfl⟩:=h;exact⟨by simp,by simp⟩
    rename_i ha;obtain⟨rfl,rfl⟩:=h;exact⟨by simp,fun _=>by simpa using ha⟩
  exact h.elim
theorem aGx (h:aEd P dst t sx sets ob):(∀p∈sets,p.1∈dst.toList)/\ob=none:=by
  unfold aEd at h;split at h
  all_goals first | exact h.elim | skip
  all_goals obtain⟨_,rfl,rfl⟩:=h
  all_goals exact⟨by simp,rfl⟩
theorem aEs (h:aGp P dst t sx sets ob):(∀p∈sets,p.1∈dst.toList)/\ob=none:=by
  unfold aGp at h;split at h
  all_goals first | exact h.elim | skip
  all_goals obtain⟨_,rfl,rfl⟩:=h
  all_goals exact⟨by simp,rfl⟩
theorem To {sb ss:Slot} (h:yL P dst t t2 x sb ss obj sets ob):(∀p∈sets,p.1∈dst.toList++(cO x).toList)/\ob=none:=by
  unfold yL at h;split at h
  . split at h
    . split at h
      all_goals first | exact h.elim | skip
      all_goals first | obtain⟨_,rfl,rfl⟩:=h | obtain⟨_,_,rfl,rfl⟩:=h
      all_goals exact⟨by simp [cO],rfl⟩
    obtain⟨xs,_,h⟩:=h;split at h
    all_goals first | exact h.elim | skip
    all_goals obtain⟨_,rfl,rfl⟩:=h
    all_goals exact⟨by simp [cO],rfl⟩
  exact h.elim
theorem Yo {sd ss : Slot} (h : Og P alt dst t t2 sd ss obj sets ob) : ∀ p ∈ sets, p.1 ∈ dst.toList := by
  have key:∀(s:Slot),∀p∈dst.toList.map (fun d=>(d,s)),p.1∈dst.toList:=fun s p hp=>by
    rw [aV] at hp;obtain⟨d,hd,rfl⟩:=hp;exact hd
  unfold Og at h;split at h
  . obtain ⟨_, h⟩ := h
    split at h
    . split at h
      . split at h
        . obtain⟨_,rfl,rfl⟩:=h;exact key _
        exact h.elim
      exact h.elim
    obtain⟨_,_,_,rfl,rfl⟩:=h;exact key _
  exact h.elim
theorem dR {d:D} (h:st.rdS x= .d d):st.rd x=d:=by unfold St.rd;rw [h]
theorem Vh(st:St)(d:Nat)(s:Slot):st.upd ⟨[(d,s)],none,none⟩=st.set d s:=rfl
theorem uG(st:St)(a b:Nat)(s r:Slot):st.upd ⟨[(a,s),(b,r)],none,none⟩=(st.set a s).set b r:=rfl
theorem Ur (t : TypeId) (x : Operand) (lo hi : Option Operand) (hd : eF o st) (ho : o.op = .slice t x lo hi none) 
    (h:Ga P o.dst t x (st.rdS x) (lo.map st.rdS) (hi.map st.rdS) sets ob):Does P o st (· =st.upd ⟨sets,none,ob⟩):=by
  unfold Ga at h;split at h
  . rename_i d m off hdst hx
    split at h
    . rename_i len k he
      rw [xX,xX] at h;split at h
      . rename_i l hh e1 e2
        obtain⟨⟨b1,b2,b3,b4⟩,rfl,rfl⟩:=h;obtain⟨e,i,h1,h2,h3⟩:=Oe he;refine cM hd (.d (.slo m (off+l.toNat * k) (hh.toNat - l.toNat) (len - l.toNat))) (fun w g tmps hok=>?_) (by rw [hdst];rfl);have hr:=hok.rd x;rw [dR hx] at hr;generalize hv:ev tmps x=v at hr;cases hr with
        | ref _ _ b hb =>
          have:=jF (P:=P) (isSlice:=false) hok (aW len) e1 e2 ⟨b1,b2,b3⟩;by_cases hml:len=l.toNat
          . refine ⟨.slice (some ⟨b, off, none⟩) (hh.toNat - l.toNat) (len - l.toNat), ?_, bV ?_ rfl⟩
            . subst hml
              simp [execOp,ho,Instr.sliceAt,hv,run_underlying h1,Instr.sureAddr,this,cD h2]
            exact .slo _ _ _ _ _ (by omega) (by omega) (by omega)
          refine⟨.slice (some ⟨b,off+l.toNat * k,none⟩) (hh.toNat - l.toNat) (len - l.toNat),?_,bV ?_ rfl⟩
          . simp [execOp,ho,Instr.sliceAt,hv,run_underlying h1,Instr.sureAddr,this,cD h2,hml,h3,Addr.add_none]
          exact .slo _ _ _ _ _ (fun h=>⟨b,hb,rfl⟩) (by omega) (by omega)
      exact h.elim
    exact h.elim
  . rename_i d hdst hx
    split at h
    . rename_i q he
      rw [xX,xX] at h;split at h
      . rename_i l hh e1 e2
        obtain⟨⟨rfl,rfl⟩,rfl,rfl⟩:=h;obtain⟨e,k,by_,z⟩:=q;obtain⟨ti,zv,h1,h2,h3,h4,h5,h6,h7,h8⟩:=jI he;refine cM hd (.d .nilS) (fun w g tmps hok=>?_) (by rw [hdst];rfl);have hr:=hok.rd x;rw [dR hx] at hr;have hv:=hr.vEq;have:=jF (P:=P) (isSlice:=true) hok (aW 0) e1 e2 ⟨mM _,mM _,mM _⟩;simp only [Int.toNat_zero] at this;exact⟨.slice none 0 0,by simp [execOp,ho,Instr.sliceAt,hv,run_underlying h1,Instr.slice,this,cD h2],bV (.v _ rfl) rfl⟩
      exact h.elim
    exact h.elim
  . rename_i d k es hdst hx
    split at h
    . rename_i e k' by_ z ts he
      rw [xX,xX] at h;split at h
      . rename_i l hh e1 e2
        obtain⟨⟨rfl,rfl,b2,b3,hne⟩,rfl,rfl⟩:=h;obtain⟨ti,zv,h1,h2,h3,h4,h5,h6,h7,h8⟩:=jI he;have hs:st.env ts= .d (.xs k' es):=hx;rw [uG];refine cH hd fun w g tmps hok=>?_;have hsl:=hok.slot ts;rw [hs] at hsl;obtain⟨hr,hown⟩:=hsl;have hvts:ev tmps (.tmp ts)=cJ tmps ts:=rfl;have hO:Zx w g.M g.bs g.X (.slot ts, []) k' es (cJ tmps ts):=by
          cases hown with
          | xs p k es v ho=>exact ho
          | flat p d v hf=>simp [D.flat] at hf
        generalize hv:cJ tmps ts=v at hr hO;cases hr with
        | xs _ _ a n cap hn hc hm ha =>
          subst hn;have hsb:=jF (P:=P) (isSlice:=true) hok hc e1 e2 ⟨mM _,b2,b3⟩;simp only [Int.toNat_zero] at hsb;have hlt:hh.toNat<=es.length:=by omega
          have hrun:(a=none\/∃b,a=some ⟨b,0,none⟩)\/cap=0->(execOp (ev tmps) o).run P w= .ok (.value (.slice a hh.toNat cap)) w:=by
            intro hab;by_cases hc0:cap=0
            . subst hc0
              simp [execOp,ho,Instr.sliceAt,hvts,hv,run_underlying h1,Instr.slice,hsb,cD h2]
            rcases hab with (rfl | ⟨b,rfl⟩) | h0
            . obtain⟨_,h0⟩:=ha rfl;exact absurd h0 hc0
            . simp [execOp,ho,Instr.sliceAt,hvts,hv,run_underlying h1,Instr.slice,hsb,cD h2,Addr.add_none]
            exact absurd h0 hc0
          rw [hdst];rcases hO with ⟨rfl,a1,e1⟩ | ⟨b,n,cap',cur,E,e1,o1,o2,o3,o4,o5,o6,o7,o8,o9,o10,o11⟩
          . simp only [Value.slice.injEq] at e1
            obtain⟨rfl,_,rfl⟩:=e1;have h0:hh.toNat=0:=by simpa using hlt
            rw [h0] at hrun |-;refine⟨_,w,g,_,.inl (hrun (.inr rfl)),rfl,Fr.refl w g,?_,rfl,by simp⟩;exact(hok.forget ts).set d _ _ ⟨.xs _ [] a 0 0 rfl (aW _) (iM _) (fun _=>⟨rfl,rfl⟩),.xs _ _ _ _ (.inl ⟨rfl,a,rfl⟩)⟩
          simp only [Value.slice.injEq] at e1;obtain⟨rfl,rfl,rfl⟩:=e1;have hlen:(es.take hh.toNat).length=hh.toNat:=by rw [bG];omega
          refine⟨_,w, { g with X:=gT (kZ (.slot ts) [] (.slot d) []) g.X },_,.inl (hrun (.inl (.inr ⟨b,rfl⟩))),rfl,Fr.ren w g (kZ (.slot ts) [] (.slot d) []),?_,rfl,by simp⟩;obtain⟨p1,_,_⟩:=hok.park ts _ hs (by simp) (kZ (.slot ts) [] (.slot d) []) (fun t ht=>rA ht);have hget:∀(i:Nat) (d:D),(es.take hh.toNat)[i]?=some d->es[i]?=some d:=fun i d h=>by
            rw [eN] at h;split at h
            . exact h
            cases h
          have p2:=(p1.set d (.d (.xs k' (es.take hh.toNat))) (.slice (some ⟨b,0,none⟩) hh.toNat cap) ⟨.xs _ _ _ _ _ hlen.symm (by omega) o7 (by simp),.xs _ _ _ _ (.inr ⟨b,hh.toNat,cap,cur,E,rfl,?_,o2,o3,o4,hlen.symm,by omega,o7,o8,o9,fun i d hi=>o10 i d (hget i d hi),fun i d j e hi hj=>o11 i d j e (hget i d hi) hj⟩)⟩)
          . exact p2.forget2 hne
          show gT (kZ (.slot ts) [] (.slot d) []) g.X b=some (.slot d, [])
          simp [gT,o1,kZ]
      exact h.elim
    exact h.elim
  exact h.elim
end
section
variable {P:Program}
theorem aAk {x:Value} :(D.ofV1 x).s1.cells= [(D.ofV1 x).s1]:=by
  unfold D.ofV1;split <;> rfl
theorem Bf (hz:z.size=k)(hk:0<k)(_h1:∀c∈z.toList,c.oneCell'=true):(vZ k z).cells=z.toList.map fun x=>(D.ofV1 x).s1:=by
  unfold vZ;split
  . rename_i h
    subst h;have h0:z[0]?=some z[0]:=bR (by omega);rw [h0];have e:z.toList= [z[0]]:=by
      apply List.ext_getElem
      . simpa using hz
      intro i a b;have:i=0:=by simp at b;omega
      subst this;simp
    rw [e];exact aAk
  rfl
theorem aFg {x:Value} :(D.ofV1 x).s1.flat=true:=by
  unfold D.ofV1;split <;> rfl
theorem aN6 (hz:z.size=k)(hk:0<k)(h1:∀c∈z.toList,c.oneCell'=true):(vZ k z).ncells=k/\(vZ k z).arr=true:=by
  refine⟨by rw [<- eH,Bf hz hk h1];simpa using hz,?_⟩;unfold D.arr;rw [Bf hz hk h1];rw [gF];intro d hd;rw [aV] at hd;obtain⟨x,_,rfl⟩:=hd;exact aFg
theorem Sw {n i j:Nat} (hz:z.size=k)(hi:i<n)(hj:j<k):(Builtin.zeroCells z n)[i * k+j]?=z[j]?:=by
  have hlt:i * k+j<n * k:=by
    have:(i+1) * k<=n * k:=fO _ hi;rw [dB] at this;omega
  have hm:(i * k+j) % k=j:=by rw [qU,Nat.mul_add_mod,sQ hj]
  subst hz;rw [Builtin.zeroCells,Gz,Array.getElem?_range,aK hlt,gJ,hm];rw [bR hj,getElem!_pos z j hj]
theorem El {M:Mem} {bs:List Nat} {n:Nat} (hz:z.size=k)(hk:0<k)(h1:∀c∈z.toList,c.oneCell'=true)(cells:Array Value)(hc:∀o,o<n * k->cells[o]?=(Builtin.zeroCells z n)[o]?):
    (∀(i:Nat) (d:D),(List.replicate n (vZ k z))[i]?=some d->d.ncells=k/\d.arr=true)/\
    ∀(i:Nat) (d:D) (j:Nat) (e:D),(List.replicate n (vZ k z))[i]?=some d->d.cells[j]?=some e->∃x,cells[i * k+j]?=some x/\R M bs e x:=by
  refine⟨fun i d h=>?_,fun i d j e h h'=>?_⟩
  . have := qO (bE h)
    subst this;exact aN6 hz hk h1
  have:=qO (bE h);subst this;have hi:=(aP.1 h).1;rw [cR] at hi;rw [Bf hz hk h1,cF,dG] at h';obtain⟨x,hx,rfl⟩:=h';have hj:=(aP.1 hx).1;have hjk:j<k:=by rw [<- hz];simpa using hj
  have hlt:i * k+j<n * k:=by
    have:(i+1) * k<=n * k:=fO _ hi;rw [dB] at this;omega
  refine⟨x,?_,(R.ofV1 _ _ x).s1⟩;rw [hc _ hlt,Sw hz hi hjk,<- dM];exact hx
theorem Ze (t : TypeId) (l c : Operand) (hd : eF o st) (ho : o.op = .makeSlice t l c) (hobj : alt = false -> obj = st.obj) 
    (h:Pv P alt o.dst t (st.rdS l) (st.rdS c) obj sets ob):Does P o st (· =st.upd ⟨sets,none,ob⟩):=by
  unfold Pv at h;split at h
  . rename_i d e k by_ z k1 n k2 n' hdst he hl hc
    obtain⟨ti,zv,h1,h2,h3,h4,h5,h6,h7,h8⟩:=jI he;obtain⟨⟨rfl,b1,b2,b3,b4⟩,h⟩:=h;refine cH hd fun w g tmps hok=>?_;have e1:ev tmps l= .int k1 n':=by
      have:=hok.rd l;rw [dR hl] at this;exact this.vEq
    have e2:ev tmps c= .int k2 n':=by
      have:=hok.rd c;rw [dR hc] at this;exact this.vEq
    have hrun:=run_make (P:=P) w t e ti zv h1 h2 h3 k1 k2 n' n' b1 (mM _) (by rw [h6];exact b2) (by unfold maxLen at b3;omega);have hcells:madeCells zv.cells (n'.toNat * ti.size)=Builtin.zeroCells z n'.toNat:=by
      rw [h4,h5,<- h7];rfl
    rw [hcells] at hrun;have hrun':(execOp (ev tmps) o).run P w= .ok (.value (.slice (some ⟨w.heap.size,0,none⟩) n'.toNat n'.toNat)) (w.alloc (.cells (Builtin.zeroCells z n'.toNat) e)):=by
      simp [execOp,ho,e1,e2,hrun]
    have hsz:(Builtin.zeroCells z n'.toNat).size=n'.toNat * k:=by rw [size_zeroCells,h7]
    rw [hdst];cases alt with
    | true =>
      simp only [aU] at h;obtain⟨rfl,rfl⟩:=h;obtain⟨z1,z2⟩:=El (M:=g.M) (bs:=g.bs) (n:=n'.toNat) h7 h8 b4 (Builtin.zeroCells z n'.toNat) (fun o _=>rfl);obtain⟨g',q1,q2,q3⟩:=hok.freshX d e k n'.toNat (List.replicate n'.toNat (vZ k z)) (Builtin.zeroCells z n'.toNat) h8 (by simp) (by omega) hsz
        (fun o c ho=>b4 c (mN (by rw [<- dM] at ho;exact bE ho) (by omega))) z1 z2
      rw [cR] at q3;exact⟨_,_,g',_,.inl hrun',rfl,q2,q3,rfl,by rw [q1];simp⟩
    | false =>
      simp only [gO,bK] at h;obtain⟨rfl,rfl⟩:=h;have hobj:=hobj rfl;subst hobj;obtain⟨q1,q2⟩:=hok.newObj (jK z n'.toNat) (Builtin.zeroCells z n'.toNat) e (by rw [hsz,jX h7]) (fun i d x a1 a2=>by
        obtain⟨rfl,hx⟩:=Fc (M:=g.M) (bs:=g.bs) (by omega) _ i d x a1 (by simpa using a2);exact⟨R.ofV1 _ _ _,Mg x,b4 x hx⟩)
      refine⟨_,_,_,_,.inl hrun',rfl,q2,q1.set d _ _ (bV (.slo _ _ _ _ _ (fun _=>⟨w.heap.size,?_,rfl⟩) (aW _) (by omega)) rfl d),rfl,by simp⟩;rw [<- hok.ol];simp
  exact h.elim
theorem aFl (t:TypeId)(x:Operand)(hd:eF o st)(ho:o.op= .call { callee:= .builtin .cap,args:=#[x],argTypes:=#[t] }) 
    (h:aEd P o.dst t (st.rdS x) sets ob):Does P o st (· =st.upd ⟨sets,none,ob⟩):=by
  unfold aEd at h;split at h
  . rename_i d m a len cap hdst hx
    obtain⟨⟨e,ht2⟩,rfl,rfl⟩:=h;refine cM hd (.d (.int cap)) (fun w g tmps hok=>?_) (by rw [hdst];rfl);have hr:=hok.rd x;rw [dR hx] at hr;generalize hv:ev tmps x=v at hr;cases hr with
    | slo _ _ _ _ y hb hc hm=>exact⟨.int .i64 cap,by simp [execOp,ho,resolve,invoke,builtin,Builtin.cap_,hv,run_underlying ht2,goInt],bV (.v _ rfl) rfl⟩
  . rename_i d hdst hx
    obtain⟨⟨e,ht2⟩,rfl,rfl⟩:=h;refine cM hd (.d (.int 0)) (fun w g tmps hok=>?_) (by rw [hdst];rfl);have hr:=hok.rd x;rw [dR hx] at hr;have hv:=hr.vEq;exact⟨.int .i64 0,by simp [execOp,ho,resolve,invoke,builtin,Builtin.cap_,hv,run_underlying ht2,goInt],bV (.v _ rfl) rfl⟩
  exact h.elim
theorem aFb (t:TypeId)(x:Operand)(hd:eF o st)(ho:o.op= .call { callee:= .builtin .len,args:=#[x],argTypes:=#[t] }) 
    (h:aGp P o.dst t (st.rdS x) sets ob):Does P o st (· =st.upd ⟨sets,none,ob⟩):=by
  unfold aGp at h;split at h
  . rename_i d hdst hx
    obtain⟨⟨e,ht⟩,rfl,rfl⟩:=h;refine cM hd (.d (.int 0)) (fun w g tmps hok=>?_) (by rw [hdst];rfl);have hr:=hok.rd x;rw [dR hx] at hr;have hv:=hr.vEq;exact⟨.int .i64 0,by simp [execOp,ho,resolve,invoke,builtin,Builtin.len_,hv,run_underlying ht,goInt],bV (.v _ rfl) rfl⟩
  exact h.elim
theorem Dk (hok : Ok w g st (cJ tmps)) (hk : 0 < k) {xs : List D} (hs : aD4 st.obj k (st.rdS x) xs) (hxs : ∀ y ∈ xs, y.ncells = k /\ y.arr = true) : aBg w g k xs (ev tmps x) := by
  unfold aD4 at hs;split at hs
  . rename_i m a len cap hx
    obtain⟨hl,cs,hcs,hpre⟩:=hs;have hr:=hok.rd x;rw [dR hx] at hr;generalize ev tmps x=v at hr;cases hr with
    | slo _ _ _ _ xa hb hc hm =>
      refine⟨fun h=>?_,fun h=>?_⟩
      . subst h
        simp only [cY] at hl;subst hl;exact⟨_,_,rfl⟩
      have hpos:0<xs.length:=List.length_pos_iff.2 h;obtain⟨b,hb2,rfl⟩:=hb (by omega);have hlen:∀d∈xs,d.cells.length=k:=fun d hd=>by rw [eH];exact(hxs d hd).1
      have hfl:=sN xs hlen;have hple:=hpre.length_le;rw [hfl,dI] at hple;have hkpos:0<xs.length * k:=qA hpos hk;have hne:cs≠ []:=by
        intro e;subst e;simp at hple;omega
      obtain⟨cur,E,o1,o2,o3,o4,o5⟩:=(hok.obj m b cs hb2 hcs).resolve_left hne;have hget:∀(o:Nat) (c:Value),(cur.extract a cur.size)[o]?=some c->cur[a+o]?=some c:=fun o c h=>by
        rw [vI] at h;split at h
        . exact h
        cases h
      have hsz:(cur.extract a cur.size).size=cs.length - a:=by rw [Array.size_extract,o2];omega
      have hel:∀(i:Nat) (d:D),xs[i]?=some d->R g.M g.bs d (Mp (cur.extract a cur.size) k i d)/\(Mp (cur.extract a cur.size) k i d).cells.size=k/\∀(j:Nat) (c:Value),(Mp (cur.extract a cur.size) k i d).cells[j]?=some c->j<k/\(cur.extract a cur.size)[i * k+j]?=some c:=fun i d hi=>by
        have hmem:=bE hi;have hil:=(aP.1 hi).1;have hfit:i * k+k<=xs.length * k:=by
          have:(i+1) * k<=xs.length * k:=fO _ hil
          rwa [dB,Ac] at this
        refine aAh (hxs d hmem).1 (hxs d hmem).2 (by rw [hsz];omega) (fun o c ho=>?_) (fun j e hj=>?_) hk
        . have h2 := hget o c ho
          have hlt:=(dL.1 h2).1;rw [o2] at hlt;exact(o5 _ _ c (aS hlt) h2).2.2
        have hcell:=De hk xs hlen hi hj;obtain⟨rest,hrest⟩:=hpre;have hcc:cs[a+(i * k+j)]?=some e:=by
          rw [<- mL,<- hrest,bC (by exact(aP.1 hcell).1)];exact hcell
        have hlt:=(aP.1 hcc).1;rw [<- o2] at hlt;have hx2:(cur.extract a cur.size)[i * k+j]?=some cur[a+(i * k+j)]:=by
          rw [vI,aK (by omega),bR hlt]
        exact⟨_,hx2,(o5 _ e _ hcc (bR hlt)).1⟩
      have hone:∀(o:Nat) (c:Value),(cur.extract a cur.size)[o]?=some c->c.oneCell'=true:=fun o c ho=>by
        have h2:=hget o c ho;have hlt:=(dL.1 h2).1;rw [o2] at hlt;exact(o5 _ _ c (aS hlt) h2).2.2
      refine⟨b,a,cap,(List.range xs.length).map fun i=>Mp (cur.extract a cur.size) k i (xs.getD i .any),by rw [hl],by simp,fun i d y h1 h2=>?_,fun y hy=>?_,fun j c hj=>?_⟩
      . have hil := (aP.1 h1).1
        rw [cF,sM hil,gJ,bF] at h2;subst h2;rw [lN,h1];exact(hel i d h1).1
      . rw [aV] at hy
        obtain⟨i,hi,rfl⟩:=hy;have hil:=eG.1 hi;have h1:=aS hil;rw [lN,h1];refine⟨(hel i _ h1).2.1,fun c hc=>?_⟩;obtain⟨j,hj⟩:=eW hc;exact hone _ c ((hel i _ h1).2.2 j c (by simpa using hj)).2
      rw [xM hk _ (fun y hy=>by
        rw [aV] at hy;obtain⟨i,hi,rfl⟩:=hy;have hil:=eG.1 hi;have h1:=aS hil;rw [lN,h1];exact(hel i _ h1).2.1),mC] at hj
      obtain⟨y,h1,h2⟩:=hj;have hil:=(aP.1 h1).1;simp only [bQ,Gv] at hil;rw [cF,sM hil,gJ,bF] at h1;subst h1;have h3:=aS hil;rw [lN,h3] at h2;have:=((hel _ _ h3).2.2 _ c h2).2;rw [show j / k * k+j % k=j by rw [qU];exact yD j k] at this;rw [Addr.add_none,cell_of_row w b (a+j) cur E (0,0) o1];exact hget _ _ this
  . rename_i es ow hx
    subst hs;have hr:=hok.rd x;rw [dR hx] at hr;exact Cq hok hr fun d hd=>(hxs d hd).1
  exact hs.elim
theorem Hd {e:TypeId} {zv:Value} (h1:P.underlying t=some (.slice e))(h2:P.info? e=some ti)(h3:ti.zero=some zv)(ht2:P.underlying t2=some (.int .i64))(kk:IntKind)(n:Nat)(ty:TypeId)(w:World)(h0:0<n)(hsz:0<ti.size)
    (h63:(n:Int)<=9223372036854775807) (h48:n * ti.bytes<=140737488355328):
    (Builtin.append_ #[t,t2] ty #[.slice none 0 0,.int kk n]).run P w=
      .ok (.slice (some ⟨w.heap.size,0,none⟩) n (grownCap w n 0 e)) (w.drew.alloc (.cells (Builtin.zeroCells zv.cells n++Builtin.zeroCells zv.cells (grownCap w n 0 e - n)) e)):=by
  have hn:n≠0:=by omega
  have h63':¬(9223372036854775807<(n:Int)):=by omega
  have h48':¬(281474976710656<Builtin.nextslicecap n 0 * ti.bytes):=by rw [nextslicecap_zero h0];omega
  have hw:IntKind.wrap .i64 (n:Int)=n:=tZ (by constructor <;> simp [IntKind.min,IntKind.max,IntKind.signed,IntKind.bits] <;> omega);have hnn:¬((n:Int)<0):=by omega
  have hbb:¬(281474976710656<(n:Int) * (ti.bytes:Int)):=by
    have:((n * ti.bytes:Nat):Int)<=140737488355328:=by omega
    rw [Eo] at this;omega
  have hnz:¬(n * ti.size=0):=by
    have:=qA h0 hsz;omega
  simp [Builtin.append_,run_underlying h1,run_underlying ht2,sizeOf,typeInfo,zeroValue,h2,h3,hn,h63',h48',asInt,asIntOf,hw,hnn,hbb,hnz,Question.forced,run_firstCells_none,newRow,grownCap]
theorem St.set_set2(st:St)(a d:Nat)(x y z:Slot):((st.set a x).set a y).set d z=(st.set a y).set d z:=by
  simp only [St.set];congr 1;funext u;by_cases hu:u=a <;> simp [hu]
theorem aEa (hok : Ok w g st (cJ tmps)) {e:TypeId} {by_:Nat} {zv : Value} (h1 : P.underlying t = some (.slice e)) (h2 : P.info? e = some ti) (h3 : ti.zero = some zv) (h4 : zv.cells = z) (h5 : ti.size = k) (h6 : ti.bytes = by_) (h7 : z.size = k) (h8 : 0 < k)
    (hz:∀c∈z.toList,c.oneCell'=true) (ht2:P.underlying t2=some (.int .i64)) (ts d:Nat) (xs:List D) (len cap:Nat) (a:Option Addr) (hv:cJ tmps ts= .slice a len cap) (hlen:xs.length=len) (hsrc:aBg w g k xs (.slice a len cap)) (hxs:∀y∈xs,y.ncells=k/\y.arr=true)
    (n:Nat) (h0:0<n) (hg:cap<len+n) (hb:(len+n) * by_<=140737488355328) (hm:len+n<=maxLen) (kk:IntKind) (ty:TypeId):
    ∃v w' g',(Builtin.append_ #[t,t2] ty #[.slice a len cap,.int kk n]).run P w= .ok v w'/\g'.bl=g.bl/\Fr w g w' g'/\Ok w' g' ((st.set ts .any).set d (.d (.xs k (xs++List.replicate n (vZ k z))))) (fun u=>if u=d then v else cJ tmps u):=by
  subst hlen;obtain ⟨olds, a1, hold, a2, a4⟩ : ∃ olds : List Value, olds.length = xs.length * k /\ (Builtin.firstCells ti.size xs.length (.slice a xs.length cap)).run P w.drew = .ok olds.toArray w.drew /\ (∀ c ∈ olds, c.oneCell' = true) /\
      (∀(i:Nat) (d:D) (j:Nat) (e:D),xs[i]?=some d->d.cells[j]?=some e->∃x,olds[i * k+j]?=some x/\R g.M g.bs e x):=by
    by_cases hx0:xs= []
    . subst hx0
      refine⟨[],by simp,?_,fun c h=>by simp at h,fun i d j e h=>by simp at h⟩;cases a with
      | none=>simp [Builtin.firstCells]
      | some a=>simp [Builtin.firstCells,loadCells,loadCellsFrom]
    obtain⟨bx,offx,capx,vvx,e1,l1,l5,l6,l7⟩:=hsrc.2 hx0;simp only [Value.slice.injEq] at e1;obtain⟨rfl,_,rfl⟩:=e1;have hxsz:∀v∈vvx,v.cells.size=k:=fun v hv=>(l6 v hv).1;have hnl:(vvx.flatMap fun v=>v.cells.toList).length=xs.length * k:=by rw [lK vvx hxsz,l1]
    refine⟨vvx.flatMap fun v=>v.cells.toList,hnl,?_,?_,?_⟩
    . exact run_firstCells_some (P:=P) w.drew ti.size xs.length ⟨bx,offx,none⟩ xs.length cap _ (by rw [hnl,h5]) (fun j u hj=>l7 j u hj)
    . intro u hu
      rw [mF] at hu;obtain⟨v,hv,hu⟩:=hu;exact(l6 v hv).2 u hu
    intro i x j y b1 b2;have hi:i<vvx.length:=by rw [l1];exact(aP.1 b1).1
    have hvi:vvx[i]?=some vvx[i]:=aS hi;have hRx:=l5 i x _ b1 hvi;have hmem:=bE b1;have hsz:=hxsz _ (bE hvi);have hj:j<vvx[i].cells.size:=by
      rw [hsz,<- (hxs x hmem).1,<- eH];exact(aP.1 b2).1
    refine⟨_,zL h8 vvx hxsz hvi (bR hj),?_⟩;by_cases hany:x= .any
    . subst hany
      have:y= .any:=by
        match j with
        | 0=>simpa [D.cells] using b2.symm
        | j+1=>simp [D.cells] at b2
      rw [this];exact .any _
    have hnt':∀cs,x≠ .tup cs:=by
      rintro cs rfl;have:=(hxs _ hmem).2;simp [D.arr,D.cells,D.flat] at this
    exact(hRx.each hany hnt' j y _ b2 (bR hj)).1
  have hfit:=growslice_fits (old:=cap) (by omega:cap<xs.length+n) (by rw [<- h6] at hb;exact hb);have h48:n * ti.bytes<=281474976710656:=by
    rw [h6];have:n * by_<=(xs.length+n) * by_:=fO _ (by omega);omega
  have hrun:=Lib.run_append_grow_zeros (P:=P) w t t2 ty e ti zv kk .i64 h1 ht2 h2 h3 a xs.length cap olds hold n h0 (by omega) hg (by unfold maxLen at hm;omega) h48 hfit;rw [h4] at hrun;have hge:=grownCap_ge w (xs.length+n) cap e;have hcm:grownCap w (xs.length+n) cap e<=maxLen:=grownCap_le_maxLen w (xs.length+n) cap e hm;obtain⟨zz1,zz2⟩:=El (M:=g.M) (bs:=g.bs) (n:=n) h7 h8 hz (Builtin.zeroCells z n) (fun o ho=>rfl);obtain⟨g',q1,q2,q3⟩:=(hok.forget ts).drew.freshX d e k (grownCap w (xs.length+n) cap e) (xs++List.replicate n (vZ k z)) (olds.toArray++Builtin.zeroCells z n++Builtin.zeroCells z (grownCap w (xs.length+n) cap e - (xs.length+n))) h8 (by simpa using hge) hcm
    (by
      simp only [vN,dX,size_zeroCells,h7,a1,<- dB];congr 1;omega)
    (fun o c ho=>by
      have hmem:c∈(olds.toArray++Builtin.zeroCells z n++Builtin.zeroCells z (grownCap w (xs.length+n) cap e - (xs.length+n))).toList:=by
        rw [<- dM] at ho;exact bE ho
      rw [kM,kM] at hmem;rcases bT.1 hmem with h | h
      . rcases bT.1 h with h | h
        . exact a2 c (by simpa using h)
        exact hz c (mN h (by omega))
      exact hz c (mN h (by omega)))
    (fun i d c1=>by
      by_cases hi:i<xs.length
      . rw [bC hi] at c1;exact hxs d (bE c1)
      rw [bX (by omega)] at c1;exact zz1 _ d c1)
    (fun i d j y c1 c2=>by
      rw [<- dM,kM,kM];by_cases hi:i<xs.length
      . rw [bC hi] at c1
        obtain⟨x,x1,x2⟩:=a4 i d j y c1 c2;refine⟨x,?_,x2⟩;have hlt:i * k+j<olds.length:=(aP.1 x1).1;rw [bW,bC (by simpa using hlt)];simpa using x1
      rw [bX (by omega)] at c1;obtain⟨x,x1,x2⟩:=zz2 _ d j y c1 c2;refine⟨x,?_,x2⟩;have hlt:(i - xs.length) * k+j<(Builtin.zeroCells z n).size:=(dL.1 x1).1;have hsub:i * k=xs.length * k+(i - xs.length) * k:=by rw [<- dB];congr 1;omega
      rw [bW,bX (by simp only [a1];omega),bC (by simp only [a1] at *;simpa using(by omega:i * k+j - xs.length * k<(Builtin.zeroCells z n).size))];have:i * k+j - xs.length * k=(i - xs.length) * k+j:=by omega
      simp only [a1];rw [this,dM];exact x1)
  simp only [aZ,cR] at q3;exact⟨_,_,g',hrun,q1,(Fr.drew w g).trans q2,q3⟩
theorem Rt (t t2 : TypeId) (s x : Operand) (hd : eF o st) (ho : o.op = .call { callee := .builtin .append, args := #[s, x], argTypes := #[t, t2] }) 
    (h:yL P o.dst t t2 s (st.rdS s) (st.rdS x) st.obj sets ob):Does P o st (· =st.upd ⟨sets,none,ob⟩):=by
  unfold yL at h;split at h
  . rename_i d e k by_ z ts hdst he
    obtain⟨ti,zv,h1,h2,h3,h4,h5,h6,h7,h8⟩:=jI he;split at h
    . rename_i kk n hx
      split at h
      . rename_i hs
        have hs:st.env ts= .d .nilS:=hs;obtain⟨⟨ht2,b0,b1,b2,hne,hz⟩,rfl,rfl⟩:=h;rw [uG];refine cH hd fun w g tmps hok=>?_;have hx':ev tmps x= .int kk n:=by
          have:=hok.rd x;rw [dR hx] at this;exact this.vEq
        have hv:ev tmps (.tmp ts)= .slice none 0 0:=by
          have:=hok.slot ts;rw [hs] at this;exact this.1.vEq
        rw [hdst];by_cases hn0:n=0
        . subst hn0
          have hw0:IntKind.wrap .i64 0=0:=tZ (by constructor <;> simp [IntKind.min,IntKind.max,IntKind.signed,IntKind.bits]);refine⟨.slice none 0 0,w,g,_,.inl ?_,rfl,Fr.refl w g,?_,rfl,by simp⟩
          . simp [execOp,ho,resolve,invoke,builtin,Builtin.append_,run_underlying h1,run_underlying ht2,cD h2,hx',hv,asInt,asIntOf,hw0,typeInfo,h2]
          exact(hok.forget ts).set d _ _ ⟨.xs _ [] none 0 0 rfl (aW _) (iM _) (fun _=>⟨rfl,rfl⟩),.xs _ _ _ _ (.inl ⟨rfl,none,rfl⟩)⟩
        obtain⟨m,rfl⟩:∃m:Nat,n=m:=⟨n.toNat,by omega⟩;have hm0:0<m:=by omega
        have hml:m<=maxLen:=by omega
        have hmb:m * ti.bytes<=140737488355328:=by
          have:((m * ti.bytes:Nat):Int)<=140737488355328:=by rw [Eo,h6];exact b1
          omega
        have hrun:=Hd (P:=P) h1 h2 h3 ht2 kk m o.type w hm0 (by omega) (by unfold maxLen at hml;omega) hmb;have hge:=grownCap_ge w m 0 e;have hcm:grownCap w m 0 e<=maxLen:=grownCap_le_maxLen w m 0 e hml;rw [h4] at hrun;obtain⟨z1,z2⟩:=El (M:=g.M) (bs:=g.bs) (n:=m) h7 h8 hz (Builtin.zeroCells z m++Builtin.zeroCells z (grownCap w m 0 e - m)) (fun o ho=>by
          rw [zW (by rw [size_zeroCells,h7];exact ho)])
        obtain⟨g',q1,q2,q3⟩:=(hok.forget ts).drew.freshX d e k (grownCap w m 0 e) (List.replicate m (vZ k z)) (Builtin.zeroCells z m++Builtin.zeroCells z (grownCap w m 0 e - m)) h8 (by simpa using hge) hcm
          (by rw [vN,size_zeroCells,size_zeroCells,h7,<- dB];congr 1;omega)
          (fun o c ho=>by
            have hmem:c∈(Builtin.zeroCells z m++Builtin.zeroCells z (grownCap w m 0 e - m)).toList:=by
              rw [<- dM] at ho;exact bE ho
            rw [kM] at hmem;rcases bT.1 hmem with h | h <;> exact hz c (mN h (by omega)))
          z1 z2
        rw [cR] at q3;refine⟨.slice (some ⟨w.heap.size,0,none⟩) m (grownCap w m 0 e),_,g',_,.inl ?_,rfl,(Fr.drew w g).trans q2,q3,rfl,by rw [q1];simp⟩;simp [execOp,ho,resolve,invoke,builtin,hx',hv,hrun]
      . rename_i m a len cap hs
        obtain⟨xs,⟨ht2,hsrc,hxs,b0,hg,b1,b2,hne,hz⟩,rfl,rfl⟩:=h;rw [uG];refine cH hd fun w g tmps hok=>?_;have hx':ev tmps x= .int kk n:=by
          have:=hok.rd x;rw [dR hx] at this;exact this.vEq
        have hso:=Dk hok (x:= .tmp ts) h8 hsrc hxs;have hlen:xs.length=len:=by
          have e1:=hsrc;rw [hs] at e1;exact e1.1
        have hr:=hok.rd (.tmp ts);rw [dR hs] at hr;generalize hv:ev tmps (.tmp ts)=v at hr hso;cases hr with
        | slo _ _ _ _ xa hb hc hm=>
        obtain⟨n',rfl⟩:∃n':Nat,n=n':=⟨n.toNat,by omega⟩;have hbb:(len+n') * by_<=140737488355328:=by
          have h9:=b1;rw [<- Int.natCast_add,<- Eo] at h9;omega
        obtain⟨v,w',g',r1,r2,r3,r4⟩:=aEa hok h1 h2 h3 h4 h5 h6 h7 h8 hz ht2 ts d xs len cap xa hv hlen hso hxs n' (by omega) (by omega) hbb (by omega) kk o.type;refine⟨v,w',g',_,.inl ?_,rfl,r3,by rw [hdst];exact r4,rfl,by rw [r2];simp⟩;simp [execOp,ho,resolve,invoke,builtin,hx',hv,r1]
      exact h.elim
    obtain⟨xs,⟨⟨e2,ht2⟩,hsrc,hxs,hne,hz⟩,h⟩:=h;have hrun:∀(tmps:Array Value) (w w':World) (v:Value),(Builtin.append_ #[t,t] o.type #[cJ tmps ts,ev tmps x]).run P w= .ok v w'->(execOp (ev tmps) o).run P w= .ok (.value v) w':=by
      intro tmps w w' v hr;rw [<- vT (ty:=o.type) h1 ht2] at hr;have:cJ tmps ts=ev tmps (.tmp ts):=rfl;rw [this] at hr;simp [execOp,ho,resolve,invoke,builtin,hr]
    split at h
    . rename_i k' es hs
      obtain⟨⟨rfl,hb,hm⟩,rfl,rfl⟩:=h;rw [uG];refine cH hd fun w g tmps hok=>?_;obtain⟨v,w',g',r1,r2,r3,r4⟩:=jO hok h1 h2 h3 h5 h6 (by rw [h4];exact h7) h8 (by rw [h4];exact hz) ts d hne es xs _ hs (.inl rfl) (ev tmps x) (Dk hok h8 hsrc hxs) hb hm hxs o.type;exact⟨v,w',g',_,.inl (hrun tmps w w' v r1),rfl,r3,by rw [hdst];exact r4,rfl,by rw [r2];simp⟩
    . rename_i hs
      have hs:st.env ts= .d .nilS:=hs;obtain⟨⟨hb,hm⟩,rfl,rfl⟩:=h;rw [uG];refine cH hd fun w g tmps hok=>?_;have hv:cJ tmps ts= .slice none 0 0:=by
        have:=hok.slot ts;rw [hs] at this;exact this.1.vEq
      have hok2:=hok.set ts (.d (.sl true [])) (cJ tmps ts) ⟨by rw [hv];exact .nil _,by rw [hv];exact .sl _ _ _ (.inl ⟨_,_,rfl⟩)⟩;have efun:(fun u=>if u=ts then cJ tmps ts else cJ tmps u)=cJ tmps:=by
        funext u;by_cases hu:u=ts <;> simp [hu]
      rw [efun] at hok2;obtain⟨v,w',g',r1,r2,r3,r4⟩:=jO hok2 h1 h2 h3 h5 h6 (by rw [h4];exact h7) h8 (by rw [h4];exact hz) ts d hne [] xs _ (by simp [St.set]) (.inr (.inl ⟨rfl,rfl⟩)) (ev tmps x) (Dk hok h8 hsrc hxs) (by simpa using hb) (by simpa using hm) hxs o.type;rw [St.set_set2] at r4;exact⟨v,w',g',_,.inl (hrun tmps w w' v r1),rfl,r3,by rw [hdst];exact r4,rfl,by rw [r2];simp⟩
    . rename_i hs
      obtain⟨⟨hb,hm⟩,rfl,rfl⟩:=h;rw [uG];refine cH hd fun w g tmps hok=>?_;obtain⟨v,w',g',r1,r2,r3,r4⟩:=jO hok h1 h2 h3 h5 h6 (by rw [h4];exact h7) h8 (by rw [h4];exact hz) ts d hne [] xs _ hs (.inr (.inl ⟨rfl,rfl⟩)) (ev tmps x) (Dk hok h8 hsrc hxs) (by simpa using hb) (by simpa using hm) hxs o.type;exact⟨v,w',g',_,.inl (hrun tmps w w' v r1),rfl,r3,by rw [hdst];exact r4,rfl,by rw [r2];simp⟩
    exact h.elim
  exact h.elim
theorem aAt {xs:List D} {vs:List Value} (hk:0<k)(hxs:∀y∈xs,y.ncells=k/\y.arr=true)(l5:∀(i:Nat) (d:D) (x:Value),xs[i]?=some d->vs[i]?=some x->R g.M g.bs d x)
    (l6:∀x:Value,x∈vs->x.cells.size=k/\∀c:Value,c∈x.cells.toList->c.oneCell'=true):∀(o:Nat) (c:D) (u:Value),(xs.flatMap D.cells)[o]?=some c->(vs.flatMap fun v=>v.cells.toList)[o]?=some u->R g.M g.bs c u/\c.flat=true:=by
  intro o c u h1 h2;have hlen:∀d∈xs,d.cells.length=k:=fun d hd=>by rw [eH];exact(hxs d hd).1
  rw [uJ hk xs hlen,mC] at h1;rw [xM hk vs (fun x hx=>(l6 x hx).1),mC] at h2;obtain⟨x,a1,a2⟩:=h1;obtain⟨v,b1,b2⟩:=h2;have hmem:=bE a1;have hflat:c.flat=true:=by
    have:=(hxs x hmem).2;unfold D.arr at this;rw [gF] at this;exact this c (bE a2)
  refine⟨?_,hflat⟩;have hRx:=l5 _ x v a1 b1;by_cases hany:x= .any
  . subst hany
    have:c= .any:=by
      match o % k,a2 with
      | 0,a2=>simpa [D.cells] using a2.symm
      | j+1,a2=>simp [D.cells] at a2
    rw [this];exact .any _
  have hnt':∀cs,x≠ .tup cs:=by
    rintro cs rfl;have:=(hxs _ hmem).2;simp [D.arr,D.cells,D.flat] at this
  exact(hRx.each hany hnt' _ c u a2 (by simpa using b2)).1
theorem Cc {α:Type} {l:List α} {m:Nat} {a:α} (h:l[m]?=some a):l.set m a=l:=by
  apply qF;intro i;rw [cL];split
  . rename_i e;subst e;rw [h];simp [(aP.1 h).1]
  rfl
theorem Zs (t t2 : TypeId) (y x : Operand) (hd : eF o st) (ho : o.op = .call { callee := .builtin .copy, args := #[y, x], argTypes := #[t, t2] }) 
    (h:Og P alt o.dst t t2 (st.rdS y) (st.rdS x) st.obj sets ob):Does P o st (· =st.upd ⟨sets,none,ob⟩):=by
  unfold Og at h;split at h
  . rename_i e k by_ z m a dl dc he hy
    obtain⟨ti,zv,h1,h2,h3,h4,h5,h6,h7,h8⟩:=jI he;obtain⟨⟨e2,ht2⟩,h⟩:=h;split at h
    . split at h
      . rename_i m' a' sl' sc' hx
        split at h
        . rename_i cs hcs
          obtain⟨⟨rfl,rfl,hmin,hne,ha,ha'⟩,rfl,rfl⟩:=h;refine cH hd fun w g tmps hok=>?_;have hr:=hok.rd y;rw [dR hy] at hr;have hr':=hok.rd x;rw [dR hx] at hr';generalize hvy:ev tmps y=vy at hr;generalize hvx:ev tmps x=vx at hr';cases hr with
          | slo _ _ _ _ ya hb hc hm=>
          cases hr' with
          | slo _ _ _ _ xa hb' hc' hm'=>
          obtain⟨b,hb2,rfl⟩:=hb (by omega);obtain⟨b',hb2',rfl⟩:=hb' (by omega);have ebb:b'=b:=by rw [hb2] at hb2';simpa using hb2'.symm
          subst ebb;have hcne:cs≠ []:=by intro e;subst e;simp at ha
          have hml:=(aP.1 hcs).1;obtain⟨cur,E,o1,o2,o3,o4,o5⟩:=(hok.obj m' b' cs hb2 hcs).resolve_left hcne;have hca:cs[a']?=some cs[a']:=aS ha';have hva:cur[a']?=some (cur[a']'(by rw [o2];exact ha')):=bR (by rw [o2];exact ha');generalize hc0:cs[a']=c at hca;generalize hu0:cur[a']'(by rw [o2];exact ha')=u at hva;have hcD:cs.getD a' .any=c:=by rw [lN,hca];rfl
          rw [hcD];obtain⟨c1,c2,c3⟩:=o5 a' c u hca hva
          -- the run
          have hl:=run_loadCells_list (P:=P) w ⟨b',a',none⟩ [u] (fun j v hj=>by
            match j with
            | 0 =>
              simp at hj;subst hj;rw [Addr.add_none,cell_of_row w b' (a'+0) cur E (0,0) o1];exact hva
            | j+1=>simp at hj)
          have hst:=run_storeCells_at P b' a E [u] 0 cur w o1 (by simp;omega) (by simpa using c3);simp only [kK,bJ,cY,eL] at hl hst;have hmn:Nat.min sl' dl=1:=hmin;have hrun:(execOp (ev tmps) o).run P w= .ok (.value (.int .i64 1)) (w.setRow b' (cur.toList.take a++ [u]++cur.toList.drop (a+1)).toArray):=by
            simp [execOp,ho,resolve,invoke,builtin,Builtin.copy_,run_underlying h1,cD h2,h5,Builtin.lenOf,Builtin.firstCells,hvy,hvx,hmn,hl,hst,goInt]
          -- the tags
          let ρ:mV->mV:=fun t=>if t.1= .obj m'/\t.2.head?=some a' then(.obj m',a::t.2.tail)else t
          have hρo:∀t:mV,t.1≠ .obj m'->ρ t=t:=fun t ht=>by simp only [ρ,ht,false_and,bK]
          have hρi:∀(i:Nat) (q:List Nat),i≠a'->ρ (.obj m',i::q)=(.obj m',i::q):=fun i q hi=>by simp [ρ,hi]
          have hρa:∀(q:List Nat),ρ (.obj m',a'::q)=(.obj m',a::q):=fun q=>by simp [ρ]
          have p1:=hok.parkObj m' (cs.set a' c.s1) ρ hρo hml (fun b2 cs2 q1 q2 _=>by
            have e1:b2=b':=by rw [hb2] at q1;simpa using q1.symm
            have e2:cs2=cs:=by rw [hcs] at q2;simpa using q2.symm
            subst e1;subst e2;refine .inr ⟨cur,E,o1,by simpa using o2,by simp [gT,o3,ρ],o4,fun i d v a1 a2=>?_⟩;rw [cL] at a1;split at a1
            . rename_i e; subst e
              simp only [ha',aU,bF] at a1;subst a1;have:v=u:=by rw [hva] at a2;simpa using a2.symm
              subst this;exact⟨c1.s1,Rd c1 c3,c3⟩
            rename_i e;obtain⟨d1,d2,d3⟩:=o5 i d v a1 a2;refine⟨d1,d2.move (fun _ _ _ h=>h) (fun _ _ h=>h) [i] fun b3 q hq=>⟨rfl,fun _ h=>h,?_⟩,d3⟩;simp only [gT,hq,gJ,List.singleton_append,hρi i q (fun e'=>e e'.symm)])
          have hmv:Own w g.M g.bs (gT ρ g.X) (.obj m') [a] c u:=c2.move (fun _ _ _ h=>h) (fun _ _ h=>h) [a] fun b3 q hq=>⟨rfl,fun _ h=>h,by simp only [gT,hq,gJ,List.singleton_append,hρa q]⟩;have hsz1:(cs.set a' c.s1).length=cs.length:=by simp
          have hg1:(st.obj.set m' (cs.set a' c.s1))[m']?=some (cs.set a' c.s1):=by simp [hml]
          have hne1:cs.set a' c.s1≠ []:=by intro e;rw [e] at hsz1;simp at hsz1;exact hcne (nO hsz1.symm)
          obtain⟨cur2,E2,w1,w2,w3,w4,w5⟩:=(p1.obj m' b' _ hb2 hg1).resolve_left hne1;have ecur:cur2=cur:=by rw [o1] at w1;simp at w1;exact w1.1.symm
          subst ecur;have hsp:∀i:Nat,(cur2.toList.take a++ [u]++cur2.toList.drop (a+1))[i]?=if i<a then cur2.toList[i]? else if i<a+1 then [u][i - a]? else cur2.toList[i]?:=fun i=>fH (ds:= [u]) (by simpa using(by omega:a+1<=cur2.size))
          obtain⟨p2,p3⟩:=p1.writeObj m' b' ((cs.set a' c.s1).set a c) (cur2.toList.take a++ [u]++cur2.toList.drop (a+1)).toArray hb2 (by rw [hg1];simpa using hne1)
            (by
              rw [dX];have:=iS (cs:=cur2.toList) (ds:= [u]) (off:=a) (by simpa using(by omega:a+1<=cur2.size));simp only [bJ,cY,eL] at this;rw [this,cK,cK,cG,o2])
            (fun i d v q1 q2=>by
              rw [fZ,hsp] at q2;rw [cL] at q1;by_cases e:a=i
              . subst e
                simp only [cK,ha,aU,bF] at q1;subst q1;simp at q2;subst q2;exact⟨c1,hmv,c3⟩
              rw [aD e] at q1;have q3:cur2[i]?=some v:=by
                by_cases c1:i<a
                . simpa [c1] using q2
                have c2:¬i<a+1:=by omega
                simpa [c1,c2] using q2
              exact w5 i d v q1 q3)
          have efin:(st.obj.set m' (cs.set a' c.s1)).set m' ((cs.set a' c.s1).set a c)=st.obj.set m' ((cs.set a c).set a' c.s1):=by
            rw [aL,List.set_comm _ _ (fun e=>hne e.symm)]
          refine⟨.int .i64 1,_,_,_,.inl hrun,rfl,(Fr.ren w g ρ).trans p3,?_,rfl,by simp⟩;simp only [efin] at p2;cases hdst:o.dst with
          | none=>exact p2
          | some d=>exact p2.set d (.d (.int 1)) _ (bV (.v _ rfl) rfl d)
        exact h.elim
      exact h.elim
    obtain⟨xs,cs,⟨hsrc,hxs,hcs,hfit⟩,rfl,rfl⟩:=h;refine cH hd fun w g tmps hok=>?_;have hr:=hok.rd y;rw [dR hy] at hr;generalize hvy:ev tmps y=vy at hr;cases hr with
    | slo _ _ _ _ ya hb hc hm=>
    obtain⟨s1,s2⟩:=Dk hok h8 hsrc hxs;have hml:=(aP.1 hcs).1;have hfin:∀(w':World) (g':Gh) (ob:List (List D)) (n:Nat),Ok w' g' { st with obj:=ob } (cJ tmps)->Ok w' g' (st.upd ⟨o.dst.toList.map (fun d=>(d,.d (.int (n:Nat)))),none,some ob⟩) (xC o.dst (.int .i64 n) (cJ tmps)):=by
      intro w' g' ob n h;cases hdst:o.dst with
      | none=>exact h
      | some d=>exact h.set d (.d (.int n)) _ (bV (.v _ rfl) rfl d)
    by_cases hn:min xs.length dl=0
    . rw [hn]
      have e1:st.obj.set m (dZ cs a ((xs.take 0).flatMap D.cells))=st.obj:=by
        have:dZ cs a ((xs.take 0).flatMap D.cells)=cs:=by simp [dZ]
        rw [this];exact Cc hcs
      rw [e1];have hlx:∃xa len c,ev tmps x= .slice xa len c/\len=xs.length:=by
        by_cases h0:xs= []
        . obtain⟨a,c,e⟩:=s1 h0;exact⟨_,_,_,e,by rw [h0];rfl⟩
        obtain⟨bx,ox,cx,vs,e,_⟩:=s2 h0;exact⟨_,_,_,e,rfl⟩
      obtain⟨xa,len,cx,hvx,rfl⟩:=hlx;have hn':Nat.min xs.length dl=0:=hn;have hfc:(Builtin.firstCells ti.size 0 (.slice xa xs.length cx)).run P w= .ok #[] w:=by
        cases xa with
        | none=>simp [Builtin.firstCells]
        | some a=>simp [Builtin.firstCells,loadCells,loadCellsFrom]
      refine⟨.int .i64 0,w,g,_,.inl ?_,rfl,Fr.refl w g,hfin w g st.obj 0 hok,rfl,by simp⟩;cases ya <;> simp [execOp,ho,resolve,invoke,builtin,Builtin.copy_,run_underlying h1,cD h2,Builtin.lenOf,hvy,hvx,hn',hfc,storeCells,goInt]
    have hx0:xs≠ []:=by intro e;subst e;simp at hn
    obtain⟨bx,ox,cx,vs,hvx,l1,l5,l6,l7⟩:=s2 hx0;obtain⟨b,hb2,rfl⟩:=hb (by omega);have hkpos:0<min xs.length dl * k:=qA (by omega) h8;have hcne:cs≠ []:=by intro e;subst e;simp at hfit;omega
    obtain⟨cur,E,o1,o2,o3,o4,o5⟩:=(hok.obj m b cs hb2 hcs).resolve_left hcne;have hvsz:∀v∈vs,v.cells.size=k:=fun v hv=>(l6 v hv).1;have hlen:∀d∈xs,d.cells.length=k:=fun d hd=>by rw [eH];exact(hxs d hd).1
    generalize hL:(vs.flatMap fun v=>v.cells.toList)=L at l7;have hLl:L.length=xs.length * k:=by rw [<- hL,lK vs hvsz,l1]
    generalize hN:min xs.length dl=N at *;have hNx:N * k<=xs.length * k:=fO _ (by omega);have htl:(L.take (N * k)).length=N * k:=by rw [bG];omega
    have hone:∀v∈L,v.oneCell'=true:=by
      intro u hu;rw [<- hL,mF] at hu;obtain⟨v,hv,hu⟩:=hu;exact(l6 v hv).2 u hu
    have hl:=run_loadCells_list (P:=P) w ⟨bx,ox,none⟩ (L.take (N * k)) (fun j v hj=>by
      rw [eN] at hj;split at hj
      . exact l7 j v hj
      cases hj)
    have hst:=run_storeCells_at P b a E (L.take (N * k)) 0 cur w o1 (by rw [htl,o2];omega) (fun v hv=>hone v (mD hv));rw [htl] at hl hst;simp only [kK] at hst;have hmn:Nat.min xs.length dl=N:=hN;have e1:a+((xs.take N).flatMap D.cells).length<=cs.length:=by
      rw [sN (k:=k) _ (fun d hd=>hlen d (mD hd)),bG,kQ (by omega)];exact hfit
    have eD:((xs.take N).flatMap D.cells).length=N * k:=by
      rw [sN (k:=k) _ (fun d hd=>hlen d (mD hd)),bG,kQ (by omega)]
    have e2':a+(L.take (N * k)).length<=cur.toList.length:=by rw [htl,cG,o2];exact hfit
    have hpre:∀(j:Nat) (d:D),((xs.take N).flatMap D.cells)[j]?=some d->(xs.flatMap D.cells)[j]?=some d:=by
      intro j d hj;have:xs.flatMap D.cells=(xs.take N).flatMap D.cells++(xs.drop N).flatMap D.cells:=by rw [<- gR,eZ]
      rw [this,bC (by exact(aP.1 hj).1)];exact hj
    obtain⟨k6,k7⟩:=hok.writeObj m b (dZ cs a ((xs.take N).flatMap D.cells)) (cur.toList.take a++L.take (N * k)++cur.toList.drop (a+(L.take (N * k)).length)).toArray hb2 (by rw [hcs];simpa using hcne)
      (by rw [dX,iS e2'];unfold dZ;rw [iS e1,cG,o2])
      (fun i d v a1 a2=>by
        unfold dZ at a1;rw [fH e1,eD] at a1;rw [fZ,fH e2',htl] at a2;by_cases c1:i<a
        . simp only [c1, aU] at a1 a2
          exact o5 i d v a1 (by simpa using a2)
        simp only [c1,bK] at a1 a2;by_cases c2:i<a+N * k
        . simp only [c2, aU] at a1 a2
          have a2':L[i - a]?=some v:=by
            rw [eN] at a2;split at a2
            . exact a2
            cases a2
          have:=aAt h8 hxs l5 l6 (i - a) d v (hpre _ _ a1) (by rw [hL];exact a2');exact⟨this.1,.flat _ _ _ this.2,hone v (bE a2')⟩
        simp only [c2,bK] at a1 a2;exact o5 i d v a1 (by simpa using a2))
    refine⟨.int .i64 N,_,_,_,.inl ?_,rfl,k7,hfin _ _ _ N k6,rfl,by simp⟩;rw [<- h5] at hl hst htl |-;simp [execOp,ho,resolve,invoke,builtin,Builtin.copy_,run_underlying h1,cD h2,Builtin.lenOf,Builtin.firstCells,hvy,hvx,hmn,hl,hst,goInt,htl]
  exact h.elim
end
end Go.Vm
