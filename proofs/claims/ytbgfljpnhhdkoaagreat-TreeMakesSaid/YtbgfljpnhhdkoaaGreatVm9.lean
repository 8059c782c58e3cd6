import Derived.Test.YtbgfljpnhhdkoaaGreatVm6
set_option linter.all false
namespace Go.Vm
open Go
variable {o:Oper}{off:Nat}{tmps:Array Value}{val:Nat->Value}{w:World}
section
variable {P:Program}
def Ii(op:UnOp)(d:D)(K:D->Prop):Prop:=
 match op,d with
 | .not,.v (.bool b)=>K (.bool (!b))
 | .neg,.v (.int k n)=>inR k (0 - n)/\K (.v (.int k (0 - n)))
 | _,_=>False
theorem aRf {st:St} {K:St->Prop} (op:UnOp)(t:TypeId)(x:Operand)(hd:eF o st)(ho:o.op= .unOp op t x)(h:Ii op (st.rd x) fun d=>K (st.put o.dst (.d d))):Does P o st K:=by
 unfold Ii at h;split at h
 .rename_i b hx;refine cM hd _ (fun w g tmps hok=>?_) h;have hr:=hok.rd x;rw [hx] at hr;exact⟨.bool (!b),by simp [execOp,ho,hr.vEq,Op.unary],bV (.v _ rfl) rfl⟩
 .rename_i k n hx;refine cM hd _ (fun w g tmps hok=>?_) h.2;have hr:=hok.rd x;rw [hx] at hr;exact⟨.int k (0 - n),by simp only [execOp,ho,hr.vEq,Op.unary,Op.intArith,tZ h.1,Sem.run_bind,Sem.run_pure,Result.andThen_ok],bV (.v _ rfl) rfl⟩
 exact h.elim
def Bs(dst:Option Tmp)(c a b:Operand)(st:St)(K:St->Prop):Prop:=
 match st.rd c with
 | .v (.bool t)=>(t=true->(st.rd a).plain=true/\K (st.put dst (.d (st.rd a).strip)))/\(t=false->(st.rd b).plain=true/\K (st.put dst (.d (st.rd b).strip)))
 | _=>False
theorem aG4 {st:St} {K:St->Prop} (c a b:Operand)(hd:eF o st)(ho:o.op= .pick c a b)(h:Bs o.dst c a b st K):Does P o st K:=by
 unfold Bs at h;split at h
 .rename_i t hc;have hcv:∀(w:World) (g:Gh) (tmps:Array Value),Ok w g st (cJ tmps)->ev tmps c= .bool t:=by
   intro w g tmps hok;have hr:=hok.rd c;rw [hc] at hr;exact hr.vEq
  cases t with
  | true=>
   refine cM hd _ (fun w g tmps hok=>?_) (h.1 rfl).2;exact⟨ev tmps a,by simp [execOp,ho,hcv w g tmps hok,asBool],rW (hok.rd a) (h.1 rfl).1⟩
  | false=>
   refine cM hd _ (fun w g tmps hok=>?_) (h.2 rfl).2;exact⟨ev tmps b,by simp [execOp,ho,hcv w g tmps hok,asBool],rW (hok.rd b) (h.2 rfl).1⟩
 exact h.elim
def Qk(s i d:Nat):mV->mV:=fun t=>if t.1= .slot s/\t.2.head?=some i then(.slot d,t.2.drop 1)else t
def qE(c:Cfg)(dst:Option Tmp)(x:Operand)(i:Nat)(st:St)(K:St->Prop):Prop:=
 match x,dst with
 | .tmp s, some d =>
  match st.env s with
  | .d (.tup cs)=>
   match cs[i]? with
   | some y=>(match y with | .tup _=>False | _=>True)/\(if c.take.contains d then s≠d/\cs.all (fun c=>match c with | .tup _=>false | _=>true)/\K ((st.set s (.d (.tup (cs.set i y.s2)))).set d (.d y))else K (st.set d (.d y.s2)))
   | none=>False
  | _=>False
 | _,_=>False
theorem Rj {st : St} {K : St -> Prop} (c : Cfg) (x : Operand) (i : Nat) (hd : eF o st) (ho : o.op = .extract x i) (h : qE c o.dst x i st K) : Does P o st K := by
 unfold qE at h;split at h
 .rename_i s d hdst;split at h
  .rename_i cs hs;split at h
   .rename_i y hy;obtain⟨hyt,h⟩:=h;have hyt':∀ds,y≠ .tup ds:=by intro ds e;subst e;exact hyt
    have go:∀(w:World) (g:Gh) (tmps:Array Value),Ok w g st (cJ tmps)->∃vs v,ev tmps (.tmp s)= .tuple vs/\vs[i]?=some v/\R g.M g.bs y v/\Own w g.M g.bs g.X (.slot s) [i] y v/\(execOp (ev tmps) o).run P w= .ok (.value v) w:=by
     intro w g tmps hok;have hr:=hok.slot s;rw [hs] at hr;have hr1:=hr.1;have hr2:=hr.2;generalize hv:cJ tmps s=v at hr1 hr2;have hv':ev tmps (.tmp s)=v:=hv;cases hr1 with
     | tup cs vs hl hrr=>
      have hlt:i<vs.size:=by rw [hl];exact(aP.1 hy).1
      have hvi:vs[i]?=some vs[i]:=bR hlt;refine⟨vs,vs[i],hv',hvi,hrr i y _ hy hvi,?_,by simp [execOp,ho,hv',Instr.extract,hlt]⟩;cases hr2 with
      | tup p cs vs hh=>exact hh i y _ hy hvi
      | flat p d v hf=>simp [D.flat] at hf
    split at h
    .obtain⟨hne,hall,hK⟩:=h;refine cH hd fun w g tmps hok=>?_;obtain⟨vs,v,h1,h2,h3,h4,h5⟩:=go w g tmps hok;have hsl:=hok.slot s;rw [hs] at hsl;have other:∀(hd:Holder),hd≠ .slot s->∀(b:Nat) (q:List Nat),g.X b=some (hd,q)->w.heap[b]?=w.heap[b]?/\(∀o,g.M b o=none->g.M b o=none)/\gT (Qk s i d) g.X b=some (hd,q):=by
      intro hd hne b q hb;exact⟨rfl,fun _ h=>h,by simp [gT,hb,Qk,hne]⟩
     refine⟨v,w, { g with X:=gT (Qk s i d) g.X },_,.inl h5,hK,Fr.ren w g (Qk s i d),?_,rfl,by simp⟩;rw [hdst];refine⟨hok.mem,fun b tg hb=>?_,fun u=>?_,hok.ll,fun n b cs h1 h2=>(hok.loc n b cs h1 h2).keep (fun _ _ _ h=>h) (fun _ _ h=>h) (other _ (by simp)),hok.ol,
      fun n b cs h1 h2=>(hok.obj n b cs h1 h2).keep (fun _ _ _ h=>h) (fun _ _ h=>h) (other _ (by simp))⟩
     .simp only [gT,dG] at hb;obtain⟨tg',hb,_⟩:=hb;exact hok.xlt b tg' hb
     simp only [St.set,xC];by_cases hu:u=d
     .subst hu;simp only [aU];refine⟨h3,h4.move (fun _ _ _ h=>h) (fun _ _ h=>h) [] fun b q hb=>⟨rfl,fun _ h=>h,?_⟩⟩;simp [gT,hb,Qk]
     simp only [hu,bK];by_cases hus:u=s
     .subst hus;simp only [aU];have hv':cJ tmps u= .tuple vs:=h1;rw [hv'] at hsl |-;have hr1:=hsl.1;have hr2:=hsl.2;cases hr1 with
      | tup _ _ hl hrr =>
       refine⟨.tup _ vs (by simpa using hl) (fun j e x a1 a2=>?_),.tup _ _ vs fun j e x a1 a2=>?_⟩
       .rw [cL] at a1;split at a1
        .rename_i hij;subst hij;split at a1
         .simp at a1;subst a1;rw [h2] at a2;simp at a2;subst a2;exact h3.s2
         cases a1
        exact hrr j e x a1 a2
       rw [cL] at a1;split at a1
       .rename_i hij;subst hij;split at a1
        .simp at a1;subst a1;rw [h2] at a2;simp at a2;subst a2;exact Bk h3 hyt'
        cases a1
       rename_i hij;have hj:Own w g.M g.bs g.X (.slot u) ([]++ [j]) e x:=by
        cases hr2 with
        | tup p cs vs hh=>exact hh j e x a1 a2
        | flat p d v hf=>simp [D.flat] at hf
       refine hj.move (fun _ _ _ h=>h) (fun _ _ h=>h) [j] fun b q hb=>⟨rfl,fun _ h=>h,?_⟩;have:¬j=i:=fun e=>hij e.symm;simp only [aO] at hb;simp [gT,hb,Qk,this]
     simp only [hus,bK];exact(hok.slot u).keep (fun _ _ _ h=>h) (fun _ _ h=>h) (fun _ _ h=>h) (other _ (by simp [hus]))
    refine cH hd fun w g tmps hok=>?_;obtain⟨vs,v,h1,h2,h3,h4,h5⟩:=go w g tmps hok;refine⟨v,w,g,_,.inl h5,h,Fr.refl w g,?_,rfl,by simp⟩;rw [hdst];exact hok.set d _ _ (Fq h3 hyt' d)
   exact h.elim
  exact h.elim
 exact h.elim
def Mm(P:Program)(dst:Option Tmp)(t:TypeId)(x:Operand)(st:St)(K:St->Prop):Prop:=
 match st.rd x with
 | .v (.string s)=>P.underlying t=some .string/\K (st.put dst (.d (.int s.size)))
 | .sl _ es=>(∃e,P.underlying t=some (.slice e))/\K (st.put dst (.d (.int es.length)))
 | _=>False
theorem aNp {st:St} {K:St->Prop} (t:TypeId)(x:Operand)(hd:eF o st)(ho:o.op= .call { callee:= .builtin .len,args:=#[x],argTypes:=#[t] })(h:Mm P o.dst t x st K):Does P o st K:=by
 unfold Mm at h;split at h
 .rename_i s hx;refine cM hd _ (fun w g tmps hok=>?_) h.2;have hr:=hok.rd x;rw [hx] at hr;have hv:=hr.vEq;exact⟨_,by simp [execOp,ho,resolve,invoke,builtin,Builtin.len_,hv,run_underlying h.1,goInt],bV (.v _ rfl) rfl⟩
 .rename_i own es hx;obtain⟨⟨e,ht⟩,hK⟩:=h;refine cM hd _ (fun w g tmps hok=>?_) hK;have hr:=hok.rd x;rw [hx] at hr;generalize hv:ev tmps x=v at hr;refine⟨.int .i64 es.length,?_,bV (.v _ rfl) rfl⟩;cases hr with
  | nil o'=>simp [execOp,ho,resolve,invoke,builtin,Builtin.len_,hv,run_underlying ht,goInt]
  | emp o' a cap hm=>simp [execOp,ho,resolve,invoke,builtin,Builtin.len_,hv,run_underlying ht,goInt]
  | sl o' es b off n cap k vs hl hn hk hc hm hr hs hx=>simp [execOp,ho,resolve,invoke,builtin,Builtin.len_,hv,run_underlying ht,goInt,hn]
 exact h.elim
def aJ3(mx:Bool)(a b:Int):Int:=if mx then max a b else min a b
def xA(mx:Bool)(dst:Option Tmp)(x y:Operand)(st:St)(K:St->Prop):Prop:=
 match st.rd x,st.rd y with
 | .v (.int k a),.v (.int k' b)=>k=k'/\K (st.put dst (.d (.v (.int k (aJ3 mx a b)))))
 | _,_=>False
theorem Xm {st:St} {K:St->Prop} (mx:Bool)(x y:Operand)(ts:Array TypeId)(hd:eF o st)(ho:o.op= .call { callee:= .builtin (if mx then .max else .min),args:=#[x,y],argTypes:=ts })(h:xA mx o.dst x y st K):Does P o st K:=by
 unfold xA at h;split at h
 .rename_i k a k' b hx hy;obtain⟨rfl,hK⟩:=h;refine cM hd _ (fun w g tmps hok=>?_) hK;have hr:=hok.rd x;rw [hx] at hr;have hv:=hr.vEq;have hr':=hok.rd y;rw [hy] at hr';have hv':=hr'.vEq;refine⟨.int k (aJ3 mx a b),?_,bV (.v _ rfl) rfl⟩;cases mx with
  | true=>
   have e:(if b > a then b else a)=max a b:=by rw [Int.max_def];split <;> split <;> omega
   simp [execOp,ho,resolve,invoke,builtin,Builtin.max_,hv,hv',Builtin.max2,aJ3,<- e]
  | false=>
   have e:(if b<a then b else a)=min a b:=by rw [Int.min_def];split <;> split <;> omega
   simp [execOp,ho,resolve,invoke,builtin,Builtin.min_,hv,hv',Builtin.min2,aJ3,<- e]
 exact h.elim
theorem R.list {g:Gh} {st:St} (hok:Ok w g st (cJ tmps))(xs:List Operand)(hp:∀x∈xs,(st.rd x).plain=true):
  ∀(i:Nat) (d:D) (v:Value),(xs.map fun x=>(st.rd x).strip)[i]?=some d->(xs.map (ev tmps))[i]?=some v->R g.M g.bs d v/\∀(w':World) (M':Mem) (bs':List Nat) (X:Nat->Option mV) (h:Holder) (p:List Nat),Own w' M' bs' X h p d v:=by
 intro i d v h1 h2;rw [cF,dG] at h1 h2;obtain⟨x,h1,rfl⟩:=h1;obtain⟨y,h2,rfl⟩:=h2;rw [h1] at h2;simp at h2;subst h2;exact⟨(hok.rd x).strip,fun w' M' bs' X h p=>nM (hok.rd x) (nH (hp x (bE h1)))⟩
def Tn(dst:Option Tmp)(f:Go.Fn)(first caps:List Operand)(st:St)(K:St->Prop):Prop:=
 (∀x∈first++caps,(st.rd x).plain=true)/\K (st.put dst (.d (.clo f (first.map fun x=>(st.rd x).strip) (caps.map fun x=>(st.rd x).strip))))
theorem aF6 {st:St} {K:St->Prop} (f:Go.Fn)(first caps:Array Operand)(hd:eF o st)(ho:o.op= .makeFunc f first caps)(h:Tn o.dst f first.toList caps.toList st K):Does P o st K:=by
 obtain⟨hp,hK⟩:=h;refine cM hd _ (fun w g tmps hok=>?_) hK;refine⟨.func f (first.map (ev tmps)) (caps.map (ev tmps)),by simp [execOp,ho,Instr.makeFunc],bV ?_ rfl⟩;refine .clo f _ _ _ _ (by simp) (by simp) (fun i d x a1 a2=>?_) (fun i d x a1 a2=>?_)
 .exact(R.list hok first.toList (fun x hx=>hp x (by simp at hx |-;exact .inl hx)) i d x a1 (by simpa using a2)).1
 exact(R.list hok caps.toList (fun x hx=>hp x (by simp at hx |-;exact .inr hx)) i d x a1 (by simpa using a2)).1
def wF(dst:Option Tmp)(x:Operand)(st:St)(K:St->Prop):Prop:=(st.rdS x).isAddr=true/\K (st.put dst ((st.rdS x).plus 0))
theorem My {st:St} {K:St->Prop} (x:Operand)(hd:eF o st)(ho:o.op= .nilCheck x)(h:wF o.dst x st K):Does P o st K:=by
 refine cM hd _ (fun w g tmps hok=>?_) h.2;obtain⟨b,off,hv,hs⟩:=hok.plus 0 h.1;exact⟨_,by simp [execOp,ho,hv],hs⟩
def qN(P:Program)(dst:Option Tmp)(s d:TypeId)(x:Operand)(st:St)(K:St->Prop):Prop:=
 match st.rd x with
 | .v (.int _ n)=>∃ks kd,P.underlying s=some (.int ks)/\P.underlying d=some (.int kd)/\inR kd n/\K (st.put dst (.d (.v (.int kd n))))
 | .v (.string b)=>P.underlying s=some .string/\P.underlying d=some .string/\K (st.put dst (.d (.str b)))
 | _=>False
theorem Si {st:St} {K:St->Prop} (s d:TypeId)(x:Operand)(hd:eF o st)(ho:o.op= .convert s d x)(h:qN P o.dst s d x st K):Does P o st K:=by
 unfold qN at h;split at h
 .rename_i k n hx;obtain⟨ks,kd,h1,h2,h3,hK⟩:=h;refine cM hd _ (fun w g tmps hok=>?_) hK;have hr:=hok.rd x;rw [hx] at hr;have hv:=hr.vEq;exact⟨.int kd n,by simp [execOp,ho,hv,convert,run_underlying h1,run_underlying h2,Conv.intToInt,tZ h3],bV (.v _ rfl) rfl⟩
 .rename_i b hx;obtain⟨h1,h2,hK⟩:=h;refine cM hd _ (fun w g tmps hok=>?_) hK;have hr:=hok.rd x;rw [hx] at hr;have hv:=hr.vEq;exact⟨.string b,by simp [execOp,ho,hv,convert,run_underlying h1,run_underlying h2],bV (.v _ rfl) rfl⟩
 exact h.elim
end
section
variable {g:Gh}
theorem Ok.newObj {st:St} (h:Ok w g st val)(cs:List D)(cur:Array Value)(E:TypeId)(hl:cur.size=cs.length)
  (hr:∀(i:Nat) (d:D) (x:Value),cs[i]?=some d->cur[i]?=some x->R g.M g.bs d x/\Own w g.M g.bs g.X (.obj st.obj.length) [i] d x/\x.oneCell'=true):
  Ok (w.alloc (.cells cur E)) { g with X:=(fun b=>if b=w.heap.size then some (.obj st.obj.length, [])else g.X b),bs:=g.bs++ [w.heap.size] } { st with obj:=st.obj++ [cs] } val/\
   Fr w g (w.alloc (.cells cur E)) { g with X:=(fun b=>if b=w.heap.size then some (.obj st.obj.length, [])else g.X b),bs:=g.bs++ [w.heap.size] } :=by
 have hk:∀(hd:Holder) (b:Nat) (q:List Nat),g.X b=some (hd,q)->(w.alloc (.cells cur E)).heap[b]?=w.heap[b]?/\(∀o,g.M b o=none->g.M b o=none)/\(if b=w.heap.size then some (.obj st.obj.length, [])else g.X b)=some (hd,q):=by
  intro hd b q hb;have:=h.xlt b _ hb;exact⟨rC w _ this,fun o ho=>ho,by rw [aD (by omega)];exact hb⟩
 have hbl:∀(n b:Nat),g.bs[n]?=some b->(g.bs++ [w.heap.size])[n]?=some b:=fun n b hb=>by
  rw [bC (by exact(aP.1 hb).1)];exact hb
 refine⟨⟨fun b o c hc=>?_,fun b t hb=>?_,fun t=>(h.slot t).keep (fun _ _ _ h=>h) hbl (fun _ _ h=>h) (hk _),h.ll,
  fun n b ds h1 h2=>(h.loc n b ds h1 h2).keep (fun _ _ _ h=>h) hbl (hk _),by simp [h.ol],fun n b ds h1 h2=>?_⟩,⟨rfl,rfl,rfl,by simp,fun b hb hx=>⟨rC w _ hb,?_,fun o=>rfl⟩,fun _ _ _ h=>h,hbl⟩⟩
 .have:=h.mlt hc;rw [World.cell?_alloc_lt w _ ⟨b,o,none⟩ this];exact h.mem b o c hc
 .simp only at hb;simp only [World.size_alloc];split at hb
  .omega
  have:=h.xlt b t hb;omega
 .by_cases hn:n<st.obj.length
  .have h1':g.bs[n]?=some b:=by rw [bC (by rw [h.ol];exact hn)] at h1;exact h1
   have h2':st.obj[n]?=some ds:=by rw [bC hn] at h2;exact h2
   exact(h.obj n b ds h1' h2').keep (fun _ _ _ h=>h) hbl (hk _)
  have hlt:=(aP.1 h2).1;simp at hlt;have hn':n=st.obj.length:=by omega
  subst hn';have e1:b=w.heap.size:=by
   have h1':=h1;rw [<- h.ol] at h1';simpa using h1'.symm
  have e2:ds=cs:=by simpa using h2.symm
  subst e1;subst e2;exact .inr ⟨cur,E,vC w _,hl,by simp,fun o=>h.newM o,fun i d x a1 a2=>⟨(hr i d x a1 a2).1.mono (fun _ _ _ h=>h) hbl,(hr i d x a1 a2).2.1.keep (fun _ _ _ h=>h) hbl (hk _),(hr i d x a1 a2).2.2⟩⟩
 simp only [aD (show ¬b=w.heap.size by omega)];exact hx
theorem Ok.park {st:St} (h:Ok w g st val)(s:Nat)(x:D)(hx:st.env s= .d x)(hnt:∀cs,x≠ .tup cs)(ρ:mV->mV)(hρ:∀t:mV,t.1≠ .slot s->ρ t=t):
  Ok w { g with X:=gT ρ g.X } (st.set s (.d x.s2)) val/\R g.M g.bs x (val s)/\Own w g.M g.bs g.X (.slot s) [] x (val s):=by
 have hs:=h.slot s;rw [hx] at hs;have other:∀(hd:Holder),hd≠ .slot s->∀(b:Nat) (q:List Nat),g.X b=some (hd,q)->w.heap[b]?=w.heap[b]?/\(∀o,g.M b o=none->g.M b o=none)/\gT ρ g.X b=some (hd,q):=by
  intro hd hne b q hb;exact⟨rfl,fun _ h=>h,by simp [gT,hb,hρ (hd,q) hne]⟩
 refine⟨⟨h.mem,fun b tg hb=>?_,fun u=>?_,h.ll,fun n b cs h1 h2=>(h.loc n b cs h1 h2).keep (fun _ _ _ h=>h) (fun _ _ h=>h) (other _ (by simp)),h.ol,
  fun n b cs h1 h2=>(h.obj n b cs h1 h2).keep (fun _ _ _ h=>h) (fun _ _ h=>h) (other _ (by simp))⟩,hs⟩
 .simp only [gT,dG] at hb;obtain⟨tg',hb,_⟩:=hb;exact h.xlt b tg' hb
 simp only [St.set];by_cases hus:u=s
 .subst hus;simp only [aU];exact⟨hs.1.s2,Bk hs.1 hnt⟩
 simp only [hus,bK];exact(h.slot u).keep (fun _ _ _ h=>h) (fun _ _ h=>h) (fun _ _ h=>h) (other _ (by simp [hus]))
theorem Ok.parkLoc {st:St} (h:Ok w g st val)(n:Nat)(cs':List D)(ρ:mV->mV)(hρ:∀t:mV,t.1≠ .loc n->ρ t=t)(hn:n<st.loc.length)
  (hc:∀(b:Nat) (cs:List D),g.bl[n]?=some b->st.loc[n]?=some cs->BoxOk w g (.loc n) b cs->BoxOk w { g with X:=gT ρ g.X } (.loc n) b cs'):
  Ok w { g with X:=gT ρ g.X } { st with loc:=st.loc.set n cs' } val:=by
 have other:∀(hd:Holder),hd≠ .loc n->∀(b:Nat) (q:List Nat),g.X b=some (hd,q)->w.heap[b]?=w.heap[b]?/\(∀o,g.M b o=none->g.M b o=none)/\gT ρ g.X b=some (hd,q):=by
  intro hd hne b q hb;exact⟨rfl,fun _ h=>h,by simp [gT,hb,hρ (hd,q) hne]⟩
 refine⟨h.mem,fun b tg hb=>?_,fun u=>(h.slot u).keep (fun _ _ _ h=>h) (fun _ _ h=>h) (fun _ _ h=>h) (other _ (by simp)),by simp [h.ll],fun m b cs h1 h2=>?_,h.ol,
  fun m b cs h1 h2=>(h.obj m b cs h1 h2).keep (fun _ _ _ h=>h) (fun _ _ h=>h) (other _ (by simp))⟩
 .simp only [gT,dG] at hb;obtain⟨tg',hb,_⟩:=hb;exact h.xlt b tg' hb
 rw [cL] at h2;split at h2
 .rename_i e;subst e;have h2':=(oQ h2).symm;subst h2';have hcs:st.loc[n]?=some st.loc[n]:=aS hn;exact hc b _ h1 hcs (h.loc n b _ h1 hcs)
 rename_i e;exact(h.loc m b cs h1 h2).keep (fun _ _ _ h=>h) (fun _ _ h=>h) (other _ (by simp;exact fun e'=>e e'.symm))
theorem Ok.parkObj {st:St} (h:Ok w g st val)(n:Nat)(cs':List D)(ρ:mV->mV)(hρ:∀t:mV,t.1≠ .obj n->ρ t=t)(hn:n<st.obj.length)
  (hc:∀(b:Nat) (cs:List D),g.bs[n]?=some b->st.obj[n]?=some cs->BoxOk w g (.obj n) b cs->BoxOk w { g with X:=gT ρ g.X } (.obj n) b cs'):
  Ok w { g with X:=gT ρ g.X } { st with obj:=st.obj.set n cs' } val:=by
 have other:∀(hd:Holder),hd≠ .obj n->∀(b:Nat) (q:List Nat),g.X b=some (hd,q)->w.heap[b]?=w.heap[b]?/\(∀o,g.M b o=none->g.M b o=none)/\gT ρ g.X b=some (hd,q):=by
  intro hd hne b q hb;exact⟨rfl,fun _ h=>h,by simp [gT,hb,hρ (hd,q) hne]⟩
 refine⟨h.mem,fun b tg hb=>?_,fun u=>(h.slot u).keep (fun _ _ _ h=>h) (fun _ _ h=>h) (fun _ _ h=>h) (other _ (by simp)),h.ll,
  fun m b cs h1 h2=>(h.loc m b cs h1 h2).keep (fun _ _ _ h=>h) (fun _ _ h=>h) (other _ (by simp)),by simp [h.ol],fun m b cs h1 h2=>?_⟩
 .simp only [gT,dG] at hb;obtain⟨tg',hb,_⟩:=hb;exact h.xlt b tg' hb
 rw [cL] at h2;split at h2
 .rename_i e;subst e;have h2':=(oQ h2).symm;subst h2';have hcs:st.obj[n]?=some st.obj[n]:=aS hn;exact hc b _ h1 hcs (h.obj n b _ h1 hcs)
 rename_i e;exact(h.obj m b cs h1 h2).keep (fun _ _ _ h=>h) (fun _ _ h=>h) (other _ (by simp;exact fun e'=>e e'.symm))
theorem Ok.writeLoc {st:St} (h:Ok w g st val)(n b:Nat)(cs':List D)(cur':Array Value)(hb:g.bl[n]?=some b)(hne:st.loc[n]?≠some [])(hl:cur'.size=cs'.length)
  (hr:∀(i:Nat) (d:D) (x:Value),cs'[i]?=some d->cur'[i]?=some x->R g.M g.bs d x/\Own w g.M g.bs g.X (.loc n) [i] d x/\x.oneCell'=true):
  Ok (w.setRow b cur') g { st with loc:=st.loc.set n cs' } val/\Fr w g (w.setRow b cur') g:=by
 have hn:n<st.loc.length:=by rw [<- h.ll];exact(aP.1 hb).1
 have hcs:st.loc[n]?=some st.loc[n]:=aS hn;obtain⟨cur,E,h1,h2,h3,h4,h5⟩:=(h.loc n b _ hb hcs).resolve_left (fun e=>hne (by rw [hcs,e]));have hk:∀(hd:Holder) (b':Nat) (q:List Nat),(hd,q)≠(Holder.loc n, [])->g.X b'=some (hd,q)->(w.setRow b cur').heap[b']?=w.heap[b']?/\(∀o,g.M b' o=none->g.M b' o=none)/\g.X b'=some (hd,q):=by
  intro hd b' q hne hx;have:b'≠b:=by intro e;subst e;rw [h3] at hx;simp only [bF] at hx;exact hne hx.symm
  exact⟨setRow_other w b b' cur' this,fun _ h=>h,hx⟩
 have hk':∀(hd:Holder),hd≠ .loc n->∀(b':Nat) (q:List Nat),g.X b'=some (hd,q)->(w.setRow b cur').heap[b']?=w.heap[b']?/\(∀o,g.M b' o=none->g.M b' o=none)/\g.X b'=some (hd,q):=
  fun hd hne b' q=>hk hd b' q (by simp [hne])
 refine⟨⟨fun b' o c hc=>?_,fun b' t ht=>by rw [size_setRow];exact h.xlt b' t ht,fun t=>(h.slot t).keep (fun _ _ _ h=>h) (fun _ _ h=>h) (fun _ _ h=>h) (hk' _ (by simp)),by simp [h.ll],fun m b' ds a1 a2=>?_,h.ol,
  fun m b' ds a1 a2=>(h.obj m b' ds a1 a2).keep (fun _ _ _ h=>h) (fun _ _ h=>h) (hk' _ (by simp))⟩,⟨rfl,rfl,rfl,by simp,fun b' hb' hx=>⟨setRow_other w b b' cur' (by intro e;subst e;rw [h3] at hx;cases hx),hx,fun o=>rfl⟩,fun _ _ _ h=>h,fun _ _ h=>h⟩⟩
 .have:b'≠b:=by intro e;subst e;rw [h4] at hc;cases hc
  rw [World.cell?_of_block (w:=w) (a:=⟨b',o,none⟩) (setRow_other w b b' cur' this)];exact h.mem b' o c hc
 rw [cL] at a2;split at a2
 .rename_i e;subst e;have a2':=(oQ a2).symm;subst a2';have:b'=b:=by rw [hb] at a1;simpa using a1.symm
  subst this;exact .inr ⟨cur',E,setRow_heap w b' cur cur' E (0,0) h1,hl,h3,h4,fun i d x c1 c2=>⟨(hr i d x c1 c2).1,(hr i d x c1 c2).2.1.move (fun _ _ _ h=>h) (fun _ _ h=>h) [i] fun b'' q hx=>by
   simpa using hk _ b'' _ (by simp) hx,(hr i d x c1 c2).2.2⟩⟩
 rename_i e;exact(h.loc m b' ds a1 a2).keep (fun _ _ _ h=>h) (fun _ _ h=>h) (hk' _ (by simp;exact fun e'=>e e'.symm))
theorem Ok.writeObj {st:St} (h:Ok w g st val)(n b:Nat)(cs':List D)(cur':Array Value)(hb:g.bs[n]?=some b)(hne:st.obj[n]?≠some [])(hl:cur'.size=cs'.length)
  (hr:∀(i:Nat) (d:D) (x:Value),cs'[i]?=some d->cur'[i]?=some x->R g.M g.bs d x/\Own w g.M g.bs g.X (.obj n) [i] d x/\x.oneCell'=true):
  Ok (w.setRow b cur') g { st with obj:=st.obj.set n cs' } val/\Fr w g (w.setRow b cur') g:=by
 have hn:n<st.obj.length:=by rw [<- h.ol];exact(aP.1 hb).1
 have hcs:st.obj[n]?=some st.obj[n]:=aS hn;obtain⟨cur,E,h1,h2,h3,h4,h5⟩:=(h.obj n b _ hb hcs).resolve_left (fun e=>hne (by rw [hcs,e]));have hk:∀(hd:Holder) (b':Nat) (q:List Nat),(hd,q)≠(Holder.obj n, [])->g.X b'=some (hd,q)->(w.setRow b cur').heap[b']?=w.heap[b']?/\(∀o,g.M b' o=none->g.M b' o=none)/\g.X b'=some (hd,q):=by
  intro hd b' q hne hx;have:b'≠b:=by intro e;subst e;rw [h3] at hx;simp only [bF] at hx;exact hne hx.symm
  exact⟨setRow_other w b b' cur' this,fun _ h=>h,hx⟩
 have hk':∀(hd:Holder),hd≠ .obj n->∀(b':Nat) (q:List Nat),g.X b'=some (hd,q)->(w.setRow b cur').heap[b']?=w.heap[b']?/\(∀o,g.M b' o=none->g.M b' o=none)/\g.X b'=some (hd,q):=
  fun hd hne b' q=>hk hd b' q (by simp [hne])
 refine⟨⟨fun b' o c hc=>?_,fun b' t ht=>by rw [size_setRow];exact h.xlt b' t ht,fun t=>(h.slot t).keep (fun _ _ _ h=>h) (fun _ _ h=>h) (fun _ _ h=>h) (hk' _ (by simp)),h.ll,
  fun m b' ds a1 a2=>(h.loc m b' ds a1 a2).keep (fun _ _ _ h=>h) (fun _ _ h=>h) (hk' _ (by simp)),by simp [h.ol],fun m b' ds a1 a2=>?_⟩,⟨rfl,rfl,rfl,by simp,fun b' hb' hx=>⟨setRow_other w b b' cur' (by intro e;subst e;rw [h3] at hx;cases hx),hx,fun o=>rfl⟩,fun _ _ _ h=>h,fun _ _ h=>h⟩⟩
 .have:b'≠b:=by intro e;subst e;rw [h4] at hc;cases hc
  rw [World.cell?_of_block (w:=w) (a:=⟨b',o,none⟩) (setRow_other w b b' cur' this)];exact h.mem b' o c hc
 rw [cL] at a2;split at a2
 .rename_i e;subst e;have a2':=(oQ a2).symm;subst a2';have:b'=b:=by rw [hb] at a1;simpa using a1.symm
  subst this;exact .inr ⟨cur',E,setRow_heap w b' cur cur' E (0,0) h1,hl,h3,h4,fun i d x c1 c2=>⟨(hr i d x c1 c2).1,(hr i d x c1 c2).2.1.move (fun _ _ _ h=>h) (fun _ _ h=>h) [i] fun b'' q hx=>by
   simpa using hk _ b'' _ (by simp) hx,(hr i d x c1 c2).2.2⟩⟩
 rename_i e;exact(h.obj m b' ds a1 a2).keep (fun _ _ _ h=>h) (fun _ _ h=>h) (hk' _ (by simp;exact fun e'=>e e'.symm))
end
section
variable {P:Program}
def St.park(st:St):Operand->St
 | .tmp s=>match st.env s with
  | .d y=>st.set s (.d y.s2)
  | .lref _ _=>st
 | _=>st
theorem Sg(st:St)(x:Operand):(st.park x).n=st.n:=by
 cases x <;> simp only [St.park];split <;> rfl
theorem xW(st:St)(x:Operand):(st.park x).loc=st.loc:=by
 cases x <;> simp only [St.park];split <;> rfl
theorem xJ(st:St)(x:Operand):(st.park x).obj=st.obj:=by
 cases x <;> simp only [St.park];split <;> rfl
def Al(a:Bool)(s:Nat)(h:Holder)(off:Nat):mV->mV:=fun t=>
 if t.1= .slot s then(if a then(match t.2 with | i::q=>(h,(off+i)::q) | []=>t)else(h,off::t.2))else t
theorem Ok.parkOp {g:Gh} {st:St} (h:Ok w g st (cJ tmps))(x:Operand)(hs:(st.rd x).solid=true)(hd:Holder)(off:Nat):
  ∃X',Ok w { g with X:=X' } (st.park x) (cJ tmps)/\Fr w g w { g with X:=X' } /\(∀b q (n:Nat),(g.X b=some (.loc n,q)->X' b=some (.loc n,q))/\(g.X b=some (.obj n,q)->X' b=some (.obj n,q)))/\
   R g.M g.bs (st.rd x) (ev tmps x)/\∀(i:Nat) (e:D) (y:Value),(st.rd x).cells[i]?=some e->(ev tmps x).cells[i]?=some y->R g.M g.bs e y/\Own w g.M g.bs X' hd [off+i] e y/\y.oneCell'=true:=by
 have hr:=h.rd x;obtain⟨hs1,hs2⟩:=kW hs;have each:=hr.each hs1 hs2;have triv:(∀(i:Nat) (e:D) (y:Value),(st.rd x).cells[i]?=some e->(ev tmps x).cells[i]?=some y->∀hd p,Own w g.M g.bs g.X hd p e y)->st.park x=st->
   ∃X',Ok w { g with X:=X' } (st.park x) (cJ tmps)/\Fr w g w { g with X:=X' } /\(∀b q (n:Nat),(g.X b=some (.loc n,q)->X' b=some (.loc n,q))/\(g.X b=some (.obj n,q)->X' b=some (.obj n,q)))/\
    R g.M g.bs (st.rd x) (ev tmps x)/\∀(i:Nat) (e:D) (y:Value),(st.rd x).cells[i]?=some e->(ev tmps x).cells[i]?=some y->R g.M g.bs e y/\Own w g.M g.bs X' hd [off+i] e y/\y.oneCell'=true:=by
  intro ho hp;rw [hp];exact⟨g.X,h,Fr.refl w g,fun b q n=>⟨fun h=>h,fun h=>h⟩,hr,fun i e y h1 h2=>⟨(each i e y h1 h2).1,ho i e y h1 h2 hd _,(each i e y h1 h2).2⟩⟩
 cases x with
 | tmp s =>
  cases he:st.env s with
  | lref n o=>simp [St.rd,St.rdS,he,D.solid] at hs
  | d y =>
   have hrd:st.rd (.tmp s)=y:=by simp [St.rd,St.rdS,he]
   have hp:st.park (.tmp s)=st.set s (.d y.s2):=by simp [St.park,he]
   rw [hrd] at hs1 hs2 each hr |-;rw [hp];have hag:∀cs,y= .agg cs->True:=fun _ _=>trivial;by_cases hagg:∃cs,y= .agg cs
   .obtain⟨cs,rfl⟩:=hagg;obtain⟨k1,k2,k3⟩:=h.park s _ he hs2 (Al true s hd off) (fun t ht=>by simp [Al,ht]);refine⟨_,k1,Fr.ren w g _,fun b q n=>⟨fun hx=>by simp [gT,hx,Al],fun hx=>by simp [gT,hx,Al]⟩,hr,fun i e v h1 h2=>⟨(each i e v h1 h2).1,?_,(each i e v h1 h2).2⟩⟩;generalize hv:cJ tmps s=u at k3;have hv':ev tmps (.tmp s)=u:=hv;rw [hv'] at h2 hr;cases hr with
    | agg _ vs hl hrr h1' =>
     cases k3 with
     | agg p _ _ hh=>
      have hi:Own w g.M g.bs g.X (.slot s) ([]++ [i]) e v:=hh i e v h1 (by simpa [Value.cells] using h2);refine hi.move (fun _ _ _ h=>h) (fun _ _ h=>h) [off+i] fun b q hb=>⟨rfl,fun _ h=>h,?_⟩;simp only [aO] at hb;simp [gT,hb,Al]
     | flat p d v hf=>simp [D.flat] at hf
   have hna:∀cs,y≠ .agg cs:=fun cs e=>hagg ⟨cs,e⟩;obtain⟨k1,k2,k3⟩:=h.park s _ he hs2 (Al false s hd off) (fun t ht=>by simp [Al,ht]);refine⟨_,k1,Fr.ren w g _,fun b q n=>⟨fun hx=>by simp [gT,hx,Al],fun hx=>by simp [gT,hx,Al]⟩,hr,fun i e v h1 h2=>⟨(each i e v h1 h2).1,?_,(each i e v h1 h2).2⟩⟩;have hone:=hr.one_of hs1 hna hs2;rw [Value.cells_one hone] at h2;have hyc:y.cells= [y]:=by cases y <;> first | rfl | exact absurd rfl (hna _)
   rw [hyc] at h1
   match i with
   | 0=>
    simp at h1 h2;subst h1;subst h2;refine k3.move (fun _ _ _ h=>h) (fun _ _ h=>h) [off+0] fun b q hb=>⟨rfl,fun _ h=>h,?_⟩;simp only [aO] at hb;simp [gT,hb,Al]
   | i+1=>simp at h1
 | const v =>
  refine triv (fun i e y h1 h2 hd p=>?_) rfl;have hv:st.rd (.const v)=D.ofV v:=rfl;rw [hv] at h1 hs2 hs1;have h2':v.cells[i]?=some y:=h2;unfold D.ofV at h1 hs2;split at h1
  .rename_i cs;split at h1
   .simp only [D.cells,cF,dM] at h1;have h2'':cs[i]?=some y:=h2';rw [h2''] at h1;simp at h1;subst h1;unfold D.ofV1;split
    .exact .sl _ _ _ (.inl ⟨_,_,rfl⟩)
    all_goals exact .flat _ _ _ rfl
   rename_i hc;simp only [hc] at hs2;simp [St.rd,St.rdS,D.ofV,hc,D.solid] at hs
  .rename_i vs;split at h1
   .rename_i hc;exfalso;simp [St.rd,St.rdS,D.ofV,hc,D.solid] at hs
   rename_i hc;exfalso;simp [St.rd,St.rdS,D.ofV,hc,D.solid] at hs
  rename_i hn1 hn2;have hone:v.oneCell'=true:=by cases v <;> simp_all [Value.oneCell']
  have hc1:(D.ofV1 v).cells= [D.ofV1 v]:=by unfold D.ofV1;split <;> rfl
  rw [hc1] at h1;rw [Value.cells_one hone] at h2'
  match i with
  | 0=>
   simp at h1 h2';subst h1;subst h2';unfold D.ofV1;split
   .exact .sl _ _ _ (.inl ⟨_,_,rfl⟩)
   all_goals exact .flat _ _ _ rfl
  | i+1=>simp at h1
 | func f=>
  refine triv (fun i e y h1 h2 hd p=>?_) rfl;have hv:st.rd (.func f)= .clo (.func f) [] []:=rfl;rw [hv] at h1
  match i with
  | 0=>simp [D.cells] at h1;subst h1;exact .flat _ _ _ rfl
  | i+1=>simp [D.cells] at h1
 | global n=>simp [St.rd,St.rdS,Slot.any,D.solid] at hs
def fC(P:Program)(t:TypeId):Option (List D):=
 match P.info? t with
 | some i=>match i.zero with
  | some z=>if z.cells.all Value.oneCell' then some (z.cells.toList.map D.ofV1)else none
  | none=>none
 | none=>none
theorem Mg {M:Mem} {bs:List Nat} {X:Nat->Option mV} {h:Holder} {p:List Nat} (v:Value):Own w M bs X h p (D.ofV1 v) v:=by
 unfold D.ofV1;split
 .exact .sl _ _ _ (.inl ⟨_,_,rfl⟩)
 all_goals exact .flat _ _ _ rfl
def tX(P:Program)(c:Cfg)(dst:Option Tmp)(e:TypeId)(st:St)(K:St->Prop):Prop:=
 match fC P e,dst with
 | some cs,some d=>if c.esc.contains d then K (({ st with obj:=st.obj++ [cs] } :St).set d (.d (.ref st.obj.length 0)))else K (({ st with loc:=st.loc++ [cs] } :St).set d (.lref st.loc.length 0))
 | _,_=>False
theorem Ym {st:St} {K:St->Prop} (c:Cfg)(e:TypeId)(hd:eF o st)(ho:o.op= .alloc e)(h:tX P c o.dst e st K):Does P o st K:=by
 unfold tX at h;split at h
 .rename_i cs d hz hdst;unfold fC at hz;split at hz
  .rename_i i hi;split at hz
   .rename_i z hzz;split at hz
    .rename_i hall;simp only [bF] at hz;rw [Fz] at hall;have hrun:∀(tmps:Array Value) (w:World),(execOp (ev tmps) o).run P w= .ok (.value (.pointer (some ⟨w.heap.size,0,none⟩))) (w.alloc (.cells z.cells e)):=by
      intro tmps w;simp [execOp,ho,Instr.alloc,zeroValue,typeInfo,hi,hzz,newVar,newRow,newObj];rfl
     have hlen:z.cells.size=cs.length:=by rw [<- hz];simp
     have hcells:∀(w:World) (g:Gh) (hd:Holder) (i:Nat) (d:D) (x:Value),cs[i]?=some d->z.cells[i]?=some x->R g.M g.bs d x/\Own w g.M g.bs g.X hd [i] d x/\x.oneCell'=true:=by
      intro w g hd i d x h1 h2;rw [<- hz,cF,dM,h2] at h1;simp at h1;subst h1;obtain⟨hl,rfl⟩:=dL.1 h2;exact⟨R.ofV1 _ _ _,Mg _,hall i hl⟩
     split at h
     .refine cH hd fun w g tmps hok=>?_;obtain⟨k1,k2⟩:=hok.newObj cs z.cells e hlen (hcells w g _);refine⟨_,_,_,_,.inl (hrun tmps w),h,k2,?_,rfl,by simp⟩;rw [hdst];refine k1.set d _ _ ⟨.ref _ 0 _ ?_,.flat _ _ _ rfl⟩;rw [<- hok.ol];simp
     refine cH hd fun w g tmps hok=>?_;obtain⟨k1,k2⟩:=hok.box cs z.cells e hlen (hcells w g _);refine⟨_,_,_,_,.inl (hrun tmps w),h,k2,?_,rfl,by simp⟩;rw [hdst];refine k1.set d _ _ ⟨_,?_,rfl⟩;rw [<- hok.ll];simp
    cases hz
   cases hz
  cases hz
 exact h.elim
def Hq(c:Cfg)(dst:Option Tmp)(x:Operand)(st:St)(K:St->Prop):Prop:=
 match dst with
 | some d=>(st.rd x).solid=true/\
  if c.imm.contains d then K (st.set d (.d (.adr (st.rd x).s2.cells)))
  else if c.esc.contains d then K (({ st.park x with obj:=st.obj++ [(st.rd x).cells] } :St).set d (.d (.ref st.obj.length 0)))
  else K (({ st.park x with loc:=st.loc++ [(st.rd x).cells] } :St).set d (.lref st.loc.length 0))
 | none=>False
theorem Jp {d:D} (h:d.solid=true):d.s2.solid=true:=by
 cases d <;> simp_all [D.solid,D.s2,D.s1]
theorem aIz {st:St} {K:St->Prop} (c:Cfg)(e:TypeId)(x:Operand)(hd:eF o st)(ho:o.op= .box e x)(h:Hq c o.dst x st K):Does P o st K:=by
 have hrun:∀(tmps:Array Value) (w:World),(execOp (ev tmps) o).run P w= .ok (.value (.pointer (some ⟨w.heap.size,0,none⟩))) (w.alloc (.cells (ev tmps x).cells e)):=by
  intro tmps w;simp [execOp,ho,Instr.box,newVar,newRow,newObj];rfl
 unfold Hq at h;split at h
 .rename_i d hdst;obtain⟨hs,h⟩:=h;obtain⟨hs1,hs2⟩:=kW hs;split at h
  .refine cH hd fun w g tmps hok=>?_;obtain⟨k1,k2⟩:=hok.known (ev tmps x).cells (ev tmps x).cells e none (fun _ _ h=>h);refine⟨_,_,_,_,.inl (hrun tmps w),h,k2,?_,rfl,by simp⟩;rw [hdst];refine k1.set d _ _ ⟨?_,.flat _ _ _ rfl⟩;have hr:=(hok.rd x).s2.mono (M':=g.M.add w.heap.size (ev tmps x).cells) k2.mono (fun _ _ h=>h);obtain⟨s1,s2⟩:=kW (Jp hs);refine .adr _ _ _ (ev tmps x).cells.toList ?_ (fun i d y h1 h2=>(hr.each s1 s2 i d y h1 (by simpa using h2)).1) (fun i y h1=>?_)
   .rw [cG,hr.cells_len s1 s2];cases (st.rd x).s2 <;> rfl
   have h1':(ev tmps x).cells[i]?=some y:=by simpa using h1
   have hl:i<(st.rd x).s2.cells.length:=by
    have:=(dL.1 h1').1;rw [hr.cells_len s1 s2] at this;have e:(st.rd x).s2.cells.length=(st.rd x).s2.ncells:=by cases (st.rd x).s2 <;> rfl
    omega
   exact⟨(hr.each s1 s2 i _ y (aS hl) h1').2,by simp [Mem.add,h1']⟩
  have hlen:∀(tmps:Array Value) (w:World) (g:Gh),Ok w g st (cJ tmps)->(ev tmps x).cells.size=(st.rd x).cells.length:=by
   intro tmps w g hok;rw [(hok.rd x).cells_len hs1 hs2];cases (st.rd x) <;> rfl
  split at h
  .refine cH hd fun w g tmps hok=>?_;obtain⟨X',k1,k2,k3,k4,k5⟩:=hok.parkOp x hs (.obj st.obj.length) 0;obtain⟨k6,k7⟩:=k1.newObj (st.rd x).cells (ev tmps x).cells e (hlen tmps w g hok) (fun i d y h1 h2=>by
    obtain⟨a1,a2,a3⟩:=k5 i d y h1 h2;rw [eL] at a2;rw [xJ];exact⟨a1,a2,a3⟩)
   rw [xJ] at k6 k7;refine⟨_,_,_,_,.inl (hrun tmps w),h,k2.trans k7,?_,Sg st x,by simp⟩;rw [hdst];refine k6.set d _ _ ⟨.ref _ 0 _ ?_,.flat _ _ _ rfl⟩;rw [<- hok.ol];simp
  refine cH hd fun w g tmps hok=>?_;obtain⟨X',k1,k2,k3,k4,k5⟩:=hok.parkOp x hs (.loc st.loc.length) 0;obtain⟨k6,k7⟩:=k1.box (st.rd x).cells (ev tmps x).cells e (hlen tmps w g hok) (fun i d y h1 h2=>by
   obtain⟨a1,a2,a3⟩:=k5 i d y h1 h2;rw [eL] at a2;rw [xW];exact⟨a1,a2,a3⟩)
  rw [xW] at k6 k7;refine⟨_,_,_,_,.inl (hrun tmps w),h,k2.trans k7,?_,Sg st x,by simp⟩;rw [hdst];refine k6.set d _ _ ⟨_,?_,rfl⟩;rw [<- hok.ll];simp
 exact h.elim
def dZ(cs:List D)(off:Nat)(ds:List D):List D:=cs.take off++ds++cs.drop (off+ds.length)
def yX(P:Program)(dst:Option Tmp)(t:TypeId)(a v:Operand)(st:St)(K:St->Prop):Prop:=
 dst=none/\(st.rd v).solid=true/\((∃ag,kJ P t=some (ag,(st.rd v).ncells))/\0<(st.rd v).ncells)/\
 match st.rdS a with
 | .lref m off=>match st.loc[m]? with
  | some cs=>off+(st.rd v).ncells<=cs.length/\K { st.park v with loc:=st.loc.set m (dZ cs off (st.rd v).cells) }
  | none=>False
 | .d (.ref m off)=>match st.obj[m]? with
  | some cs=>off+(st.rd v).ncells<=cs.length/\K { st.park v with obj:=st.obj.set m (dZ cs off (st.rd v).cells) }
  | none=>False
 | _=>False
theorem mK(d:D):d.ncells=d.cells.length:=by cases d <;> rfl
theorem fH {α:Type} {cs ds:List α} {i:Nat} (h:off+ds.length<=cs.length):(cs.take off++ds++cs.drop (off+ds.length))[i]?=if i<off then cs[i]? else if i<off+ds.length then ds[i - off]? else cs[i]?:=by
 rw [bW];by_cases h1:i<off
 .rw [aK h1,bC (by rw [bG];omega),eN,aK h1]
 rw [aD h1,bX (by rw [bG];omega),bG,kQ (by omega)];by_cases h2:i<off+ds.length
 .rw [aK h2,bC (by omega)]
 rw [aD h2,bX (by omega),mL];congr 1;omega
theorem iS {α:Type} {cs ds:List α} (h:off+ds.length<=cs.length):(cs.take off++ds++cs.drop (off+ds.length)).length=cs.length:=by
 simp only [aZ,bG,dI];omega
theorem wK {b:Nat} {cur:Array Value} {E t:TypeId} {ag:Bool} {n:Nat} {v:Value} (hh:w.heap[b]?=some (.cells cur E (0,0)))(ht:kJ P t=some (ag,n))(hn:v.cells.size=n)(hl:off+n<=cur.size)
  (h1:∀x∈v.cells.toList,x.oneCell'=true):(storeVar t ⟨b,off,none⟩ v).run P w= .ok () (w.setRow b (cur.toList.take off++v.cells.toList++cur.toList.drop (off+v.cells.toList.length)).toArray):=by
 obtain⟨td,ti,i1,i2,i3,i4⟩:=rH ht;have:=run_storeCells_at P b off E v.cells.toList 0 cur w hh (by rw [cG,hn];omega) h1;simp only [storeVar,Sem.run_bind,cD i2,i4,Result.andThen_ok,hn,ne_eq,not_true_eq_false,bK];simpa using this
theorem Ie {w':World} {t:TypeId} {a v:Operand} {ad:Addr} (ho:o.op= .store t a v)(hv:ev tmps a= .pointer (some ad))(h:(storeVar t ad (ev tmps v)).run P w= .ok () w'):
  (execOp (ev tmps) o).run P w= .ok .skip w':=by
 simp [execOp,ho,Instr.storeAt,hv,Instr.sureAddr,h]
theorem Zn {st:St} {K:St->Prop} (t:TypeId)(a v:Operand)(hd:eF o st)(ho:o.op= .store t a v)(h:yX P o.dst t a v st K):Does P o st K:=by
 obtain⟨hdst,hs,⟨⟨ag,ht⟩,hpos⟩,h⟩:=h;obtain⟨hs1,hs2⟩:=kW hs;have hlen:∀(tmps:Array Value) (w:World) (g:Gh),Ok w g st (cJ tmps)->(ev tmps v).cells.size=(st.rd v).ncells:=fun tmps w g hok=>(hok.rd v).cells_len hs1 hs2
 -- the cells behind the store
 have cells:∀(w:World) (g:Gh) (X':Nat->Option mV) (tmps:Array Value) (hd:Holder) (off:Nat) (cs:List D) (cur:Array Value),(ev tmps v).cells.size=(st.rd v).ncells->cur.size=cs.length->off+(st.rd v).ncells<=cs.length->
   (∀(i:Nat) (d:D) (x:Value),cs[i]?=some d->cur[i]?=some x->R g.M g.bs d x/\Own w g.M g.bs X' hd [i] d x/\x.oneCell'=true)->
   (∀(i:Nat) (e:D) (y:Value),(st.rd v).cells[i]?=some e->(ev tmps v).cells[i]?=some y->R g.M g.bs e y/\Own w g.M g.bs X' hd [off+i] e y/\y.oneCell'=true)->
   ((cur.toList.take off++(ev tmps v).cells.toList++cur.toList.drop (off+(ev tmps v).cells.toList.length)).toArray).size=(dZ cs off (st.rd v).cells).length/\
   ∀(i:Nat) (d:D) (x:Value),(dZ cs off (st.rd v).cells)[i]?=some d->(cur.toList.take off++(ev tmps v).cells.toList++cur.toList.drop (off+(ev tmps v).cells.toList.length)).toArray[i]?=some x->R g.M g.bs d x/\Own w g.M g.bs X' hd [i] d x/\x.oneCell'=true:=by
  intro w g X' tmps hd off cs cur h1 h2 h3 h4 h5;have e1:off+(st.rd v).cells.length<=cs.length:=by rw [<- mK];exact h3
  have e2:off+(ev tmps v).cells.toList.length<=cur.toList.length:=by rw [cG,cG,h1,h2];exact h3
  refine⟨?_,fun i d x a1 a2=>?_⟩
  .rw [dX,iS e2];unfold dZ;rw [iS e1,cG,h2]
  unfold dZ at a1;rw [fH e1] at a1;rw [fZ,fH e2] at a2;rw [cG,h1] at a2;rw [<- mK] at a1;by_cases c1:i<off
  .simp only [c1,aU] at a1 a2;exact h4 i d x a1 (by simpa using a2)
  simp only [c1,bK] at a1 a2;by_cases c2:i<off+(st.rd v).ncells
  .simp only [c2,aU] at a1 a2;have:=h5 (i - off) d x a1 (by simpa using a2)
   rwa [show off+(i - off)=i by omega] at this
  simp only [c2,bK] at a1 a2;exact h4 i d x a1 (by simpa using a2)
 split at h
 .rename_i m off ha;split at h
  .rename_i cs hcs;obtain⟨hle,hK⟩:=h;refine cH hd fun w g tmps hok=>?_;obtain⟨b,hb,hv⟩:=hok.rdL ha;obtain⟨X',k1,k2,k3,k4,k5⟩:=hok.parkOp v hs (.loc m) off;obtain⟨cur,E,h1,h2,h3,h4,h5⟩:=(k1.loc m b cs hb (by rw [xW];exact hcs)).resolve_left (by intro e;rw [e] at hle;simp at hle;omega);obtain⟨c1,c2⟩:=cells w g X' tmps (.loc m) off cs cur (hlen tmps w g hok) h2 hle h5 k5;obtain⟨k6,k7⟩:=k1.writeLoc m b _ _ hb (by rw [xW,hcs];intro e;simp at e;rw [e] at hle;simp at hle;omega) c1 c2;refine⟨undef,_,_,_,.inr ⟨?_,rfl⟩,hK,k2.trans k7,?_,Sg st v,by simp⟩
   .have hone:∀y∈(ev tmps v).cells.toList,y.oneCell'=true:=by
     intro y hy;obtain⟨i,hi⟩:=eW hy;have hi':(ev tmps v).cells[i]?=some y:=by simpa using hi
     have hl:i<(st.rd v).cells.length:=by
      have:=(dL.1 hi').1;rw [hlen tmps w g hok,mK] at this;exact this
     exact(k5 i _ y (aS hl) hi').2.2
    have hfit:off+(st.rd v).ncells<=cur.size:=by rw [h2];exact hle
    exact Ie ho hv (wK (P:=P) h1 ht (hlen tmps w g hok) hfit hone)
   rw [hdst];rw [xW] at k6;exact k6
  exact h.elim
 .rename_i m off ha;split at h
  .rename_i cs hcs;obtain⟨hle,hK⟩:=h;refine cH hd fun w g tmps hok=>?_;have hra:=hok.rd a;simp only [St.rd,ha] at hra;generalize hv:ev tmps a=va at hra;cases hra with
   | ref _ _ b hb =>
    obtain⟨X',k1,k2,k3,k4,k5⟩:=hok.parkOp v hs (.obj m) off;obtain⟨cur,E,h1,h2,h3,h4,h5⟩:=(k1.obj m b cs hb (by rw [xJ];exact hcs)).resolve_left (by intro e;rw [e] at hle;simp at hle;omega);obtain⟨c1,c2⟩:=cells w g X' tmps (.obj m) off cs cur (hlen tmps w g hok) h2 hle h5 k5;obtain⟨k6,k7⟩:=k1.writeObj m b _ _ hb (by rw [xJ,hcs];intro e;simp at e;rw [e] at hle;simp at hle;omega) c1 c2;refine⟨undef,_,_,_,.inr ⟨?_,rfl⟩,hK,k2.trans k7,?_,Sg st v,by simp⟩
    .have hone:∀y∈(ev tmps v).cells.toList,y.oneCell'=true:=by
      intro y hy;obtain⟨i,hi⟩:=eW hy;have hi':(ev tmps v).cells[i]?=some y:=by simpa using hi
      have hl:i<(st.rd v).cells.length:=by
       have:=(dL.1 hi').1;rw [hlen tmps w g hok,mK] at this;exact this
      exact(k5 i _ y (aS hl) hi').2.2
     have hfit:off+(st.rd v).ncells<=cur.size:=by rw [h2];exact hle
     exact Ie ho hv (wK (P:=P) h1 ht (hlen tmps w g hok) hfit hone)
    rw [hdst];rw [xJ] at k6;exact k6
  exact h.elim
 exact h.elim
end
end Go.Vm
