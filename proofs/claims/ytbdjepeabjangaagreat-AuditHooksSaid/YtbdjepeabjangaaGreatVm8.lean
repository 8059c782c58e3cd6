import Derived.Test.YtbdjepeabjangaaGreatVm6
set_option linter.all false
namespace Go.Vm
open Go
variable {K:St->Prop}{o:Oper}{st:St}{val:Nat->Value}
section
variable {P:Program}
def Ai(op:UnOp)(d:D)(K:D->Prop):Prop:=
 match op,d with
 | .not,.v (.bool b)=>K (.bool (!b))
 | .neg,.v (.int k n)=>Xk k (0 - n)/\K (.v (.int k (0 - n)))
 | _,_=>False
theorem aFs (op:UnOp)(t:TypeId)(x:Operand)(hd:dD o st)(ho:o.op= .unOp op t x)(h:Ai op (st.rd x) fun d=>K (st.put o.dst (.d d))):Does P o st K:=by
 unfold Ai at h;split at h
 .rename_i b hx;refine bL hd _ (fun w g tmps hok=>?_) h;have hr:=hok.rd x;rw [hx] at hr;exact⟨.bool (!b),by simp [execOp,ho,hr.vEq,Op.unary],bC (.v _ rfl) rfl⟩
 .rename_i k n hx;refine bL hd _ (fun w g tmps hok=>?_) h.2;have hr:=hok.rd x;rw [hx] at hr;exact⟨.int k (0 - n),by simp only [execOp,ho,hr.vEq,Op.unary,Op.intArith,pB h.1,Sem.run_bind,Sem.run_pure,Result.andThen_ok],bC (.v _ rfl) rfl⟩
 exact h.elim
def uU(dst:Option Tmp)(c a b:Operand)(st:St)(K:St->Prop):Prop:=
 match st.rd c with
 | .v (.bool t)=>(t=true->(st.rd a).plain=true/\K (st.put dst (.d (st.rd a).strip)))/\(t=false->(st.rd b).plain=true/\K (st.put dst (.d (st.rd b).strip)))
 | _=>False
theorem Tq (c a b:Operand)(hd:dD o st)(ho:o.op= .pick c a b)(h:uU o.dst c a b st K):Does P o st K:=by
 unfold uU at h;split at h
 .rename_i t hc;have hcv:∀(w:World) (g:Gh) (tmps:Array Value),Ok w g st (bQ tmps)->ev tmps c= .bool t:=by
   intro w g tmps hok;have hr:=hok.rd c;rw [hc] at hr;exact hr.vEq
  cases t with
  | true=>
   refine bL hd _ (fun w g tmps hok=>?_) (h.1 rfl).2;exact⟨ev tmps a,by simp [execOp,ho,hcv w g tmps hok,asBool],nB (hok.rd a) (h.1 rfl).1⟩
  | false=>
   refine bL hd _ (fun w g tmps hok=>?_) (h.2 rfl).2;exact⟨ev tmps b,by simp [execOp,ho,hcv w g tmps hok,asBool],nB (hok.rd b) (h.2 rfl).1⟩
 exact h.elim
def Ec(s i d:Nat):jK->jK:=fun t=>if t.1= .slot s/\t.2.head?=some i then(.slot d,t.2.drop 1)else t
def lV(c:Cfg)(dst:Option Tmp)(x:Operand)(i:Nat)(st:St)(K:St->Prop):Prop:=
 match x,dst with
 | .tmp s, some d =>
  match st.env s with
  | .d (.tup cs)=>
   match cs[i]? with
   | some y=>(match y with | .tup _=>False | _=>True)/\(if c.take.contains d then s≠d/\cs.all (fun c=>match c with | .tup _=>false | _=>true)/\K ((st.set s (.d (.tup (cs.set i y.s2)))).set d (.d y))else K (st.set d (.d y.s2)))
   | none=>False
  | _=>False
 | _,_=>False
theorem Hv (c : Cfg) (x : Operand) (i : Nat) (hd : dD o st) (ho : o.op = .extract x i) (h : lV c o.dst x i st K) : Does P o st K := by
 unfold lV at h;split at h
 .rename_i s d hdst;split at h
  .rename_i cs hs;split at h
   .rename_i y hy;obtain⟨hyt,h⟩:=h;have hyt':∀ds,y≠ .tup ds:=by intro ds e;subst e;exact hyt
    have go:∀(w:World) (g:Gh) (tmps:Array Value),Ok w g st (bQ tmps)->∃vs v,ev tmps (.tmp s)= .tuple vs/\vs[i]?=some v/\R g.M g.bs y v/\Own w g.M g.bs g.X (.slot s) [i] y v/\(execOp (ev tmps) o).run P w= .ok (.value v) w:=by
     intro w g tmps hok;have hr:=hok.slot s;rw [hs] at hr;have hr1:=hr.1;have hr2:=hr.2;generalize hv:bQ tmps s=v at hr1 hr2;have hv':ev tmps (.tmp s)=v:=hv;cases hr1 with
     | tup cs vs hl hrr=>
      have hlt:i<vs.size:=by rw [hl];exact(aH.1 hy).1
      have hvi:vs[i]?=some vs[i]:=aV hlt;refine⟨vs,vs[i],hv',hvi,hrr i y _ hy hvi,?_,by simp [execOp,ho,hv',Instr.extract,hlt]⟩;cases hr2 with
      | tup p cs vs hh=>exact hh i y _ hy hvi
      | flat p d v hf=>simp [D.flat] at hf
    split at h
    .obtain⟨hne,hall,hK⟩:=h;refine bE hd fun w g tmps hok=>?_;obtain⟨vs,v,h1,h2,h3,h4,h5⟩:=go w g tmps hok;have hsl:=hok.slot s;rw [hs] at hsl;have other:∀(hd:Holder),hd≠ .slot s->∀(b:Nat) (q:List Nat),g.X b=some (hd,q)->w.heap[b]?=w.heap[b]?/\(∀o,g.M b o=none->g.M b o=none)/\fG (Ec s i d) g.X b=some (hd,q):=by
      intro hd hne b q hb;exact⟨rfl,fun _ h=>h,by simp [fG,hb,Ec,hne]⟩
     refine⟨v,w, { g with X:=fG (Ec s i d) g.X },_,.inl h5,hK,Fr.ren w g (Ec s i d),?_,rfl,by simp⟩;rw [hdst];refine⟨hok.mem,fun b tg hb=>?_,fun u=>?_,hok.ll,fun n b cs h1 h2=>(hok.loc n b cs h1 h2).keep (fun _ _ _ h=>h) (fun _ _ h=>h) (other _ (by simp)),hok.ol,
      fun n b cs h1 h2=>(hok.obj n b cs h1 h2).keep (fun _ _ _ h=>h) (fun _ _ h=>h) (other _ (by simp))⟩
     .simp only [fG,cU] at hb;obtain⟨tg',hb,_⟩:=hb;exact hok.xlt b tg' hb
     simp only [St.set,sJ];by_cases hu:u=d
     .subst hu;simp only [aJ];refine⟨h3,h4.move (fun _ _ _ h=>h) (fun _ _ h=>h) [] fun b q hb=>⟨rfl,fun _ h=>h,?_⟩⟩;simp [fG,hb,Ec]
     simp only [hu,aZ];by_cases hus:u=s
     .subst hus;simp only [aJ];have hv':bQ tmps u= .tuple vs:=h1;rw [hv'] at hsl |-;have hr1:=hsl.1;have hr2:=hsl.2;cases hr1 with
      | tup _ _ hl hrr =>
       refine⟨.tup _ vs (by simpa using hl) (fun j e x a1 a2=>?_),.tup _ _ vs fun j e x a1 a2=>?_⟩
       .rw [bS] at a1;split at a1
        .rename_i hij;subst hij;split at a1
         .simp at a1;subst a1;rw [h2] at a2;simp at a2;subst a2;exact h3.s2
         cases a1
        exact hrr j e x a1 a2
       rw [bS] at a1;split at a1
       .rename_i hij;subst hij;split at a1
        .simp at a1;subst a1;rw [h2] at a2;simp at a2;subst a2;exact uX h3 hyt'
        cases a1
       rename_i hij;have hj:Own w g.M g.bs g.X (.slot u) ([]++ [j]) e x:=by
        cases hr2 with
        | tup p cs vs hh=>exact hh j e x a1 a2
        | flat p d v hf=>simp [D.flat] at hf
       refine hj.move (fun _ _ _ h=>h) (fun _ _ h=>h) [j] fun b q hb=>⟨rfl,fun _ h=>h,?_⟩;have:¬j=i:=fun e=>hij e.symm;simp only [aK] at hb;simp [fG,hb,Ec,this]
     simp only [hus,aZ];exact(hok.slot u).keep (fun _ _ _ h=>h) (fun _ _ h=>h) (fun _ _ h=>h) (other _ (by simp [hus]))
    refine bE hd fun w g tmps hok=>?_;obtain⟨vs,v,h1,h2,h3,h4,h5⟩:=go w g tmps hok;refine⟨v,w,g,_,.inl h5,h,Fr.refl w g,?_,rfl,by simp⟩;rw [hdst];exact hok.set d _ _ (sR h3 hyt' d)
   exact h.elim
  exact h.elim
 exact h.elim
def Da(P:Program)(dst:Option Tmp)(t:TypeId)(x:Operand)(st:St)(K:St->Prop):Prop:=
 match st.rd x with
 | .v (.string s)=>P.underlying t=some .string/\K (st.put dst (.d (.int s.size)))
 | .sl _ es=>(∃e,P.underlying t=some (.slice e))/\K (st.put dst (.d (.int es.length)))
 | _=>False
theorem aBd (t:TypeId)(x:Operand)(hd:dD o st)(ho:o.op= .call { callee:= .builtin .len,args:=#[x],argTypes:=#[t] })(h:Da P o.dst t x st K):Does P o st K:=by
 unfold Da at h;split at h
 .rename_i s hx;refine bL hd _ (fun w g tmps hok=>?_) h.2;have hr:=hok.rd x;rw [hx] at hr;have hv:=hr.vEq;exact⟨_,by simp [execOp,ho,resolve,invoke,builtin,Builtin.len_,hv,run_underlying h.1,goInt],bC (.v _ rfl) rfl⟩
 .rename_i own es hx;obtain⟨⟨e,ht⟩,hK⟩:=h;refine bL hd _ (fun w g tmps hok=>?_) hK;have hr:=hok.rd x;rw [hx] at hr;generalize hv:ev tmps x=v at hr;refine⟨.int .i64 es.length,?_,bC (.v _ rfl) rfl⟩;cases hr with
  | nil o'=>simp [execOp,ho,resolve,invoke,builtin,Builtin.len_,hv,run_underlying ht,goInt]
  | emp o' a cap hm=>simp [execOp,ho,resolve,invoke,builtin,Builtin.len_,hv,run_underlying ht,goInt]
  | sl o' es b off n cap k vs hl hn hk hc hm hr hs hx=>simp [execOp,ho,resolve,invoke,builtin,Builtin.len_,hv,run_underlying ht,goInt,hn]
 exact h.elim
def Xp(mx:Bool)(a b:Int):Int:=if mx then max a b else min a b
def rM(mx:Bool)(dst:Option Tmp)(x y:Operand)(st:St)(K:St->Prop):Prop:=
 match st.rd x,st.rd y with
 | .v (.int k a),.v (.int k' b)=>k=k'/\K (st.put dst (.d (.v (.int k (Xp mx a b)))))
 | _,_=>False
theorem Lu (mx:Bool)(x y:Operand)(ts:Array TypeId)(hd:dD o st)(ho:o.op= .call { callee:= .builtin (if mx then .max else .min),args:=#[x,y],argTypes:=ts })(h:rM mx o.dst x y st K):Does P o st K:=by
 unfold rM at h;split at h
 .rename_i k a k' b hx hy;obtain⟨rfl,hK⟩:=h;refine bL hd _ (fun w g tmps hok=>?_) hK;have hr:=hok.rd x;rw [hx] at hr;have hv:=hr.vEq;have hr':=hok.rd y;rw [hy] at hr';have hv':=hr'.vEq;refine⟨.int k (Xp mx a b),?_,bC (.v _ rfl) rfl⟩;cases mx with
  | true=>
   have e:(if b > a then b else a)=max a b:=by rw [Int.max_def];split <;> split <;> omega
   simp [execOp,ho,resolve,invoke,builtin,Builtin.max_,hv,hv',Builtin.max2,Xp,<- e]
  | false=>
   have e:(if b<a then b else a)=min a b:=by rw [Int.min_def];split <;> split <;> omega
   simp [execOp,ho,resolve,invoke,builtin,Builtin.min_,hv,hv',Builtin.min2,Xp,<- e]
 exact h.elim
theorem R.list {w:World} {g:Gh} {tmps:Array Value} (hok:Ok w g st (bQ tmps))(xs:List Operand)(hp:∀x∈xs,(st.rd x).plain=true):
  ∀(i:Nat) (d:D) (v:Value),(xs.map fun x=>(st.rd x).strip)[i]?=some d->(xs.map (ev tmps))[i]?=some v->R g.M g.bs d v/\∀(w':World) (M':Mem) (bs':List Nat) (X:Nat->Option jK) (h:Holder) (p:List Nat),Own w' M' bs' X h p d v:=by
 intro i d v h1 h2;rw [bP,cU] at h1 h2;obtain⟨x,h1,rfl⟩:=h1;obtain⟨y,h2,rfl⟩:=h2;rw [h1] at h2;simp at h2;subst h2;exact⟨(hok.rd x).strip,fun w' M' bs' X h p=>jY (hok.rd x) (jT (hp x (aS h1)))⟩
def Hi(dst:Option Tmp)(f:Go.Fn)(first caps:List Operand)(st:St)(K:St->Prop):Prop:=
 (∀x∈first++caps,(st.rd x).plain=true)/\K (st.put dst (.d (.clo f (first.map fun x=>(st.rd x).strip) (caps.map fun x=>(st.rd x).strip))))
theorem Ts (f:Go.Fn)(first caps:Array Operand)(hd:dD o st)(ho:o.op= .makeFunc f first caps)(h:Hi o.dst f first.toList caps.toList st K):Does P o st K:=by
 obtain⟨hp,hK⟩:=h;refine bL hd _ (fun w g tmps hok=>?_) hK;refine⟨.func f (first.map (ev tmps)) (caps.map (ev tmps)),by simp [execOp,ho,Instr.makeFunc],bC ?_ rfl⟩;refine .clo f _ _ _ _ (by simp) (by simp) (fun i d x a1 a2=>?_) (fun i d x a1 a2=>?_)
 .exact(R.list hok first.toList (fun x hx=>hp x (by simp at hx |-;exact .inl hx)) i d x a1 (by simpa using a2)).1
 exact(R.list hok caps.toList (fun x hx=>hp x (by simp at hx |-;exact .inr hx)) i d x a1 (by simpa using a2)).1
def qU(dst:Option Tmp)(x:Operand)(st:St)(K:St->Prop):Prop:=(st.rdS x).isAddr=true/\K (st.put dst ((st.rdS x).plus 0))
theorem Dn (x:Operand)(hd:dD o st)(ho:o.op= .nilCheck x)(h:qU o.dst x st K):Does P o st K:=by
 refine bL hd _ (fun w g tmps hok=>?_) h.2;obtain⟨b,off,hv,hs⟩:=hok.plus 0 h.1;exact⟨_,by simp [execOp,ho,hv],hs⟩
def lO(P:Program)(dst:Option Tmp)(s d:TypeId)(x:Operand)(st:St)(K:St->Prop):Prop:=
 match st.rd x with
 | .v (.int _ n)=>∃ks kd,P.underlying s=some (.int ks)/\P.underlying d=some (.int kd)/\Xk kd n/\K (st.put dst (.d (.v (.int kd n))))
 | .v (.string b)=>P.underlying s=some .string/\P.underlying d=some .string/\K (st.put dst (.d (.str b)))
 | _=>False
theorem Hb (s d:TypeId)(x:Operand)(hd:dD o st)(ho:o.op= .convert s d x)(h:lO P o.dst s d x st K):Does P o st K:=by
 unfold lO at h;split at h
 .rename_i k n hx;obtain⟨ks,kd,h1,h2,h3,hK⟩:=h;refine bL hd _ (fun w g tmps hok=>?_) hK;have hr:=hok.rd x;rw [hx] at hr;have hv:=hr.vEq;exact⟨.int kd n,by simp [execOp,ho,hv,convert,run_underlying h1,run_underlying h2,Conv.intToInt,pB h3],bC (.v _ rfl) rfl⟩
 .rename_i b hx;obtain⟨h1,h2,hK⟩:=h;refine bL hd _ (fun w g tmps hok=>?_) hK;have hr:=hok.rd x;rw [hx] at hr;have hv:=hr.vEq;exact⟨.string b,by simp [execOp,ho,hv,convert,run_underlying h1,run_underlying h2],bC (.v _ rfl) rfl⟩
 exact h.elim
end
section
variable {w:World} {g:Gh}
theorem Ok.newObj (h:Ok w g st val)(cs:List D)(cur:Array Value)(E:TypeId)(hl:cur.size=cs.length)
  (hr:∀(i:Nat) (d:D) (x:Value),cs[i]?=some d->cur[i]?=some x->R g.M g.bs d x/\Own w g.M g.bs g.X (.obj st.obj.length) [i] d x/\x.oneCell'=true):
  Ok (w.alloc (.cells cur E)) { g with X:=(fun b=>if b=w.heap.size then some (.obj st.obj.length, [])else g.X b),bs:=g.bs++ [w.heap.size] } { st with obj:=st.obj++ [cs] } val/\
   Fr w g (w.alloc (.cells cur E)) { g with X:=(fun b=>if b=w.heap.size then some (.obj st.obj.length, [])else g.X b),bs:=g.bs++ [w.heap.size] } :=by
 have hk:∀(hd:Holder) (b:Nat) (q:List Nat),g.X b=some (hd,q)->(w.alloc (.cells cur E)).heap[b]?=w.heap[b]?/\(∀o,g.M b o=none->g.M b o=none)/\(if b=w.heap.size then some (.obj st.obj.length, [])else g.X b)=some (hd,q):=by
  intro hd b q hb;have:=h.xlt b _ hb;exact⟨kK w _ this,fun o ho=>ho,by rw [aG (by omega)];exact hb⟩
 have hbl:∀(n b:Nat),g.bs[n]?=some b->(g.bs++ [w.heap.size])[n]?=some b:=fun n b hb=>by
  rw [aU (by exact(aH.1 hb).1)];exact hb
 refine⟨⟨fun b o c hc=>?_,fun b t hb=>?_,fun t=>(h.slot t).keep (fun _ _ _ h=>h) hbl (fun _ _ h=>h) (hk _),h.ll,
  fun n b ds h1 h2=>(h.loc n b ds h1 h2).keep (fun _ _ _ h=>h) hbl (hk _),by simp [h.ol],fun n b ds h1 h2=>?_⟩,⟨rfl,rfl,rfl,by simp,fun b hb hx=>⟨kK w _ hb,?_,fun o=>rfl⟩,fun _ _ _ h=>h,hbl⟩⟩
 .have:=h.mlt hc;rw [World.cell?_alloc_lt w _ ⟨b,o,none⟩ this];exact h.mem b o c hc
 .simp only at hb;simp only [World.size_alloc];split at hb
  .omega
  have:=h.xlt b t hb;omega
 .by_cases hn:n<st.obj.length
  .have h1':g.bs[n]?=some b:=by rw [aU (by rw [h.ol];exact hn)] at h1;exact h1
   have h2':st.obj[n]?=some ds:=by rw [aU hn] at h2;exact h2
   exact(h.obj n b ds h1' h2').keep (fun _ _ _ h=>h) hbl (hk _)
  have hlt:=(aH.1 h2).1;simp at hlt;have hn':n=st.obj.length:=by omega
  subst hn';have e1:b=w.heap.size:=by
   have h1':=h1;rw [<- h.ol] at h1';simpa using h1'.symm
  have e2:ds=cs:=by simpa using h2.symm
  subst e1;subst e2;exact .inr ⟨cur,E,oH w _,hl,by simp,fun o=>h.newM o,fun i d x a1 a2=>⟨(hr i d x a1 a2).1.mono (fun _ _ _ h=>h) hbl,(hr i d x a1 a2).2.1.keep (fun _ _ _ h=>h) hbl (hk _),(hr i d x a1 a2).2.2⟩⟩
 simp only [aG (show ¬b=w.heap.size by omega)];exact hx
theorem Ok.park (h:Ok w g st val)(s:Nat)(x:D)(hx:st.env s= .d x)(hnt:∀cs,x≠ .tup cs)(ρ:jK->jK)(hρ:∀t:jK,t.1≠ .slot s->ρ t=t):
  Ok w { g with X:=fG ρ g.X } (st.set s (.d x.s2)) val/\R g.M g.bs x (val s)/\Own w g.M g.bs g.X (.slot s) [] x (val s):=by
 have hs:=h.slot s;rw [hx] at hs;have other:∀(hd:Holder),hd≠ .slot s->∀(b:Nat) (q:List Nat),g.X b=some (hd,q)->w.heap[b]?=w.heap[b]?/\(∀o,g.M b o=none->g.M b o=none)/\fG ρ g.X b=some (hd,q):=by
  intro hd hne b q hb;exact⟨rfl,fun _ h=>h,by simp [fG,hb,hρ (hd,q) hne]⟩
 refine⟨⟨h.mem,fun b tg hb=>?_,fun u=>?_,h.ll,fun n b cs h1 h2=>(h.loc n b cs h1 h2).keep (fun _ _ _ h=>h) (fun _ _ h=>h) (other _ (by simp)),h.ol,
  fun n b cs h1 h2=>(h.obj n b cs h1 h2).keep (fun _ _ _ h=>h) (fun _ _ h=>h) (other _ (by simp))⟩,hs⟩
 .simp only [fG,cU] at hb;obtain⟨tg',hb,_⟩:=hb;exact h.xlt b tg' hb
 simp only [St.set];by_cases hus:u=s
 .subst hus;simp only [aJ];exact⟨hs.1.s2,uX hs.1 hnt⟩
 simp only [hus,aZ];exact(h.slot u).keep (fun _ _ _ h=>h) (fun _ _ h=>h) (fun _ _ h=>h) (other _ (by simp [hus]))
theorem Ok.parkLoc (h:Ok w g st val)(n:Nat)(cs':List D)(ρ:jK->jK)(hρ:∀t:jK,t.1≠ .loc n->ρ t=t)(hn:n<st.loc.length)
  (hc:∀(b:Nat) (cs:List D),g.bl[n]?=some b->st.loc[n]?=some cs->BoxOk w g (.loc n) b cs->BoxOk w { g with X:=fG ρ g.X } (.loc n) b cs'):
  Ok w { g with X:=fG ρ g.X } { st with loc:=st.loc.set n cs' } val:=by
 have other:∀(hd:Holder),hd≠ .loc n->∀(b:Nat) (q:List Nat),g.X b=some (hd,q)->w.heap[b]?=w.heap[b]?/\(∀o,g.M b o=none->g.M b o=none)/\fG ρ g.X b=some (hd,q):=by
  intro hd hne b q hb;exact⟨rfl,fun _ h=>h,by simp [fG,hb,hρ (hd,q) hne]⟩
 refine⟨h.mem,fun b tg hb=>?_,fun u=>(h.slot u).keep (fun _ _ _ h=>h) (fun _ _ h=>h) (fun _ _ h=>h) (other _ (by simp)),by simp [h.ll],fun m b cs h1 h2=>?_,h.ol,
  fun m b cs h1 h2=>(h.obj m b cs h1 h2).keep (fun _ _ _ h=>h) (fun _ _ h=>h) (other _ (by simp))⟩
 .simp only [fG,cU] at hb;obtain⟨tg',hb,_⟩:=hb;exact h.xlt b tg' hb
 rw [bS] at h2;split at h2
 .rename_i e;subst e;have h2':=(qB h2).symm;subst h2';have hcs:st.loc[n]?=some st.loc[n]:=aN hn;exact hc b _ h1 hcs (h.loc n b _ h1 hcs)
 rename_i e;exact(h.loc m b cs h1 h2).keep (fun _ _ _ h=>h) (fun _ _ h=>h) (other _ (by simp;exact fun e'=>e e'.symm))
theorem Ok.parkObj (h:Ok w g st val)(n:Nat)(cs':List D)(ρ:jK->jK)(hρ:∀t:jK,t.1≠ .obj n->ρ t=t)(hn:n<st.obj.length)
  (hc:∀(b:Nat) (cs:List D),g.bs[n]?=some b->st.obj[n]?=some cs->BoxOk w g (.obj n) b cs->BoxOk w { g with X:=fG ρ g.X } (.obj n) b cs'):
  Ok w { g with X:=fG ρ g.X } { st with obj:=st.obj.set n cs' } val:=by
 have other:∀(hd:Holder),hd≠ .obj n->∀(b:Nat) (q:List Nat),g.X b=some (hd,q)->w.heap[b]?=w.heap[b]?/\(∀o,g.M b o=none->g.M b o=none)/\fG ρ g.X b=some (hd,q):=by
  intro hd hne b q hb;exact⟨rfl,fun _ h=>h,by simp [fG,hb,hρ (hd,q) hne]⟩
 refine⟨h.mem,fun b tg hb=>?_,fun u=>(h.slot u).keep (fun _ _ _ h=>h) (fun _ _ h=>h) (fun _ _ h=>h) (other _ (by simp)),h.ll,
  fun m b cs h1 h2=>(h.loc m b cs h1 h2).keep (fun _ _ _ h=>h) (fun _ _ h=>h) (other _ (by simp)),by simp [h.ol],fun m b cs h1 h2=>?_⟩
 .simp only [fG,cU] at hb;obtain⟨tg',hb,_⟩:=hb;exact h.xlt b tg' hb
 rw [bS] at h2;split at h2
 .rename_i e;subst e;have h2':=(qB h2).symm;subst h2';have hcs:st.obj[n]?=some st.obj[n]:=aN hn;exact hc b _ h1 hcs (h.obj n b _ h1 hcs)
 rename_i e;exact(h.obj m b cs h1 h2).keep (fun _ _ _ h=>h) (fun _ _ h=>h) (other _ (by simp;exact fun e'=>e e'.symm))
theorem Ok.writeLoc (h:Ok w g st val)(n b:Nat)(cs':List D)(cur':Array Value)(hb:g.bl[n]?=some b)(hne:st.loc[n]?≠some [])(hl:cur'.size=cs'.length)
  (hr:∀(i:Nat) (d:D) (x:Value),cs'[i]?=some d->cur'[i]?=some x->R g.M g.bs d x/\Own w g.M g.bs g.X (.loc n) [i] d x/\x.oneCell'=true):
  Ok (w.setRow b cur') g { st with loc:=st.loc.set n cs' } val/\Fr w g (w.setRow b cur') g:=by
 have hn:n<st.loc.length:=by rw [<- h.ll];exact(aH.1 hb).1
 have hcs:st.loc[n]?=some st.loc[n]:=aN hn;obtain⟨cur,E,h1,h2,h3,h4,h5⟩:=(h.loc n b _ hb hcs).resolve_left (fun e=>hne (by rw [hcs,e]));have hk:∀(hd:Holder) (b':Nat) (q:List Nat),(hd,q)≠(Holder.loc n, [])->g.X b'=some (hd,q)->(w.setRow b cur').heap[b']?=w.heap[b']?/\(∀o,g.M b' o=none->g.M b' o=none)/\g.X b'=some (hd,q):=by
  intro hd b' q hne hx;have:b'≠b:=by intro e;subst e;rw [h3] at hx;simp only [aP] at hx;exact hne hx.symm
  exact⟨setRow_other w b b' cur' this,fun _ h=>h,hx⟩
 have hk':∀(hd:Holder),hd≠ .loc n->∀(b':Nat) (q:List Nat),g.X b'=some (hd,q)->(w.setRow b cur').heap[b']?=w.heap[b']?/\(∀o,g.M b' o=none->g.M b' o=none)/\g.X b'=some (hd,q):=
  fun hd hne b' q=>hk hd b' q (by simp [hne])
 refine⟨⟨fun b' o c hc=>?_,fun b' t ht=>by rw [size_setRow];exact h.xlt b' t ht,fun t=>(h.slot t).keep (fun _ _ _ h=>h) (fun _ _ h=>h) (fun _ _ h=>h) (hk' _ (by simp)),by simp [h.ll],fun m b' ds a1 a2=>?_,h.ol,
  fun m b' ds a1 a2=>(h.obj m b' ds a1 a2).keep (fun _ _ _ h=>h) (fun _ _ h=>h) (hk' _ (by simp))⟩,⟨rfl,rfl,rfl,by simp,fun b' hb' hx=>⟨setRow_other w b b' cur' (by intro e;subst e;rw [h3] at hx;cases hx),hx,fun o=>rfl⟩,fun _ _ _ h=>h,fun _ _ h=>h⟩⟩
 .have:b'≠b:=by intro e;subst e;rw [h4] at hc;cases hc
  rw [World.cell?_of_block (w:=w) (a:=⟨b',o,none⟩) (setRow_other w b b' cur' this)];exact h.mem b' o c hc
 rw [bS] at a2;split at a2
 .rename_i e;subst e;have a2':=(qB a2).symm;subst a2';have:b'=b:=by rw [hb] at a1;simpa using a1.symm
  subst this;exact .inr ⟨cur',E,setRow_heap w b' cur cur' E (0,0) h1,hl,h3,h4,fun i d x c1 c2=>⟨(hr i d x c1 c2).1,(hr i d x c1 c2).2.1.move (fun _ _ _ h=>h) (fun _ _ h=>h) [i] fun b'' q hx=>by
   simpa using hk _ b'' _ (by simp) hx,(hr i d x c1 c2).2.2⟩⟩
 rename_i e;exact(h.loc m b' ds a1 a2).keep (fun _ _ _ h=>h) (fun _ _ h=>h) (hk' _ (by simp;exact fun e'=>e e'.symm))
theorem Ok.writeObj (h:Ok w g st val)(n b:Nat)(cs':List D)(cur':Array Value)(hb:g.bs[n]?=some b)(hne:st.obj[n]?≠some [])(hl:cur'.size=cs'.length)
  (hr:∀(i:Nat) (d:D) (x:Value),cs'[i]?=some d->cur'[i]?=some x->R g.M g.bs d x/\Own w g.M g.bs g.X (.obj n) [i] d x/\x.oneCell'=true):
  Ok (w.setRow b cur') g { st with obj:=st.obj.set n cs' } val/\Fr w g (w.setRow b cur') g:=by
 have hn:n<st.obj.length:=by rw [<- h.ol];exact(aH.1 hb).1
 have hcs:st.obj[n]?=some st.obj[n]:=aN hn;obtain⟨cur,E,h1,h2,h3,h4,h5⟩:=(h.obj n b _ hb hcs).resolve_left (fun e=>hne (by rw [hcs,e]));have hk:∀(hd:Holder) (b':Nat) (q:List Nat),(hd,q)≠(Holder.obj n, [])->g.X b'=some (hd,q)->(w.setRow b cur').heap[b']?=w.heap[b']?/\(∀o,g.M b' o=none->g.M b' o=none)/\g.X b'=some (hd,q):=by
  intro hd b' q hne hx;have:b'≠b:=by intro e;subst e;rw [h3] at hx;simp only [aP] at hx;exact hne hx.symm
  exact⟨setRow_other w b b' cur' this,fun _ h=>h,hx⟩
 have hk':∀(hd:Holder),hd≠ .obj n->∀(b':Nat) (q:List Nat),g.X b'=some (hd,q)->(w.setRow b cur').heap[b']?=w.heap[b']?/\(∀o,g.M b' o=none->g.M b' o=none)/\g.X b'=some (hd,q):=
  fun hd hne b' q=>hk hd b' q (by simp [hne])
 refine⟨⟨fun b' o c hc=>?_,fun b' t ht=>by rw [size_setRow];exact h.xlt b' t ht,fun t=>(h.slot t).keep (fun _ _ _ h=>h) (fun _ _ h=>h) (fun _ _ h=>h) (hk' _ (by simp)),h.ll,
  fun m b' ds a1 a2=>(h.loc m b' ds a1 a2).keep (fun _ _ _ h=>h) (fun _ _ h=>h) (hk' _ (by simp)),by simp [h.ol],fun m b' ds a1 a2=>?_⟩,⟨rfl,rfl,rfl,by simp,fun b' hb' hx=>⟨setRow_other w b b' cur' (by intro e;subst e;rw [h3] at hx;cases hx),hx,fun o=>rfl⟩,fun _ _ _ h=>h,fun _ _ h=>h⟩⟩
 .have:b'≠b:=by intro e;subst e;rw [h4] at hc;cases hc
  rw [World.cell?_of_block (w:=w) (a:=⟨b',o,none⟩) (setRow_other w b b' cur' this)];exact h.mem b' o c hc
 rw [bS] at a2;split at a2
 .rename_i e;subst e;have a2':=(qB a2).symm;subst a2';have:b'=b:=by rw [hb] at a1;simpa using a1.symm
  subst this;exact .inr ⟨cur',E,setRow_heap w b' cur cur' E (0,0) h1,hl,h3,h4,fun i d x c1 c2=>⟨(hr i d x c1 c2).1,(hr i d x c1 c2).2.1.move (fun _ _ _ h=>h) (fun _ _ h=>h) [i] fun b'' q hx=>by
   simpa using hk _ b'' _ (by simp) hx,(hr i d x c1 c2).2.2⟩⟩
 rename_i e;exact(h.obj m b' ds a1 a2).keep (fun _ _ _ h=>h) (fun _ _ h=>h) (hk' _ (by simp;exact fun e'=>e e'.symm))
end
end Go.Vm
