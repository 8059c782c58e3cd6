import Derived.Test.YtbdjepeabjangaaGreatVm22
set_option linter.all false
namespace Go.Vm
open Go
variable {N clock k n:Nat}{Q Q':D->List (List D)->Prop}{args es:List D}{bs0:List Nat}{f:FuncId}{kd:TypeDesc}{kvs:List (Value×Nat×D)}{α:Type}{σ:List (List D)}
section
variable {P:Program}
def Sc(N:Nat)(d:D):Prop:=(∀M bs v,R M bs d v->R M (bs.take N) d v)/\(∀w M bs X h p v,Own w M bs X h p d v->Own w M (bs.take N) X h p d v)
theorem kL {bs:List Nat} {b:Nat} (hn:n<N)(h:bs[n]?=some b):(bs.take N)[n]?=some b:=by
 rw [dX,aR hn];exact h
theorem scR {M0:Mem} {d:D} {v0:Value} (h:R M0 bs0 d v0)(hN:bs0.length<=N):∀M bs v,R M bs d v->R M (bs.take N) d v:=by
 have lt:∀(n b:Nat),bs0[n]?=some b->n<N:=fun n b hb=>lX (aH.1 hb).1 hN;induction h with
 | any x=>intro M bs v _;exact .any _
 | v x hx=>intro M bs v h;cases h with | v _ h=>exact .v _ h
 | nil o=>
  intro M bs v h;cases h with
  | nil=>exact .nil _
  | emp o a cap hm=>exact .emp _ a cap hm
  | sl o es b off n cap k vs hl hn hk hc hm hr hs hx=>exact .sl _ [] b off n cap k vs hl hn hk hc hm (fun i d x a=>by simp at a) hs hx
 | emp o a cap hm=>
  intro M bs v h;cases h with
  | nil=>exact .nil _
  | emp o a cap hm=>exact .emp _ a cap hm
  | sl o es b off n cap k vs hl hn hk hc hm hr hs hx=>exact .sl _ [] b off n cap k vs hl hn hk hc hm (fun i d x a=>by simp at a) hs hx
 | sl o es b off n cap k vs hl hn hk hc hm hr hs hx ih =>
  intro M bs v h;cases h with
  | nil=>exact .nil _
  | emp o a cap hm=>exact .emp _ a cap hm
  | sl o' es' b' off' n' cap' k' vs' hl' hn' hk' hc' hm' hr' hs' hx'=>
   refine .sl _ _ b' off' n' cap' k' vs' hl' hn' hk' hc' hm' (fun i d x a1 a2=>?_) hs' hx';have hi:i<vs.length:=by rw [hl];exact(aH.1 a1).1
   exact ih i d _ a1 (aN hi) M bs x (hr' i d x a1 a2)
 | agg cs vs hl hr h1 ih =>
  intro M bs v h;cases h with
  | agg _ vs' hl' hr' h1'=>
   refine .agg _ vs' hl' (fun i d x a1 a2=>?_) h1';have hi:i<vs.size:=by rw [hl];exact(aH.1 a1).1
   exact ih i d _ a1 (aV hi) M bs x (hr' i d x a1 a2)
 | tup cs vs hl hr ih =>
  intro M bs v h;cases h with
  | tup _ vs' hl' hr'=>
   refine .tup _ vs' hl' (fun i d x a1 a2=>?_);have hi:i<vs.size:=by rw [hl];exact(aH.1 a1).1
   exact ih i d _ a1 (aV hi) M bs x (hr' i d x a1 a2)
 | adr cs b off vs hl hr hx ih =>
  intro M bs v h;cases h with
  | adr _ b' off' vs' hl' hr' hx'=>
   refine .adr _ b' off' vs' hl' (fun i d x a1 a2=>?_) hx';have hi:i<vs.length:=by rw [hl];exact(aH.1 a1).1
   exact ih i d _ a1 (aN hi) M bs x (hr' i d x a1 a2)
 | ref n off b hb=>intro M bs v h;cases h with | ref _ _ b' hb'=>exact .ref _ _ b' (kL (lt _ _ hb) hb')
 | clo f first caps v1 v2 l1 l2 h1 h2 ih1 ih2 =>
  intro M bs v h;cases h with
  | clo _ _ _ w1 w2 m1 m2 k1 k2 =>
   refine .clo _ _ _ w1 w2 m1 m2 (fun i d x a1 a2=>?_) (fun i d x a1 a2=>?_)
   .have hi:i<v1.size:=by rw [l1];exact(aH.1 a1).1
    exact ih1 i d _ a1 (aV hi) M bs x (k1 i d x a1 a2)
   have hi:i<v2.size:=by rw [l2];exact(aH.1 a1).1
   exact ih2 i d _ a1 (aV hi) M bs x (k2 i d x a1 a2)
 | ifc t d x h ih=>intro M bs v h;cases h with | ifc _ _ x' h'=>exact .ifc _ _ _ (ih M bs x' h')
 | xs k es a n cap hn hc hm ha=>intro M bs v h;cases h with | xs _ _ a' n' cap' hn' hc' hm' ha'=>exact .xs _ _ a' n' cap' hn' hc' hm' ha'
 | xl a n cap hc hm ha=>intro M bs v h;cases h with | xl a' _ cap' hc' hm' ha'=>exact .xl a' _ cap' hc' hm' ha'
 | slo n a len cap x hb hc hm=>intro M bs v h;cases h with | slo _ _ _ _ x' hb' hc' hm'=>exact .slo _ _ _ _ x' (fun h0=>by obtain⟨b,b1,_⟩:=hb h0;obtain⟨b',c1,c2⟩:=hb' h0;exact⟨b',kL (lt _ _ b1) c1,c2⟩) hc' hm'
 | mref n b hb=>intro M bs v h;cases h with | mref _ b' hb'=>exact .mref _ b' (kL (lt _ _ hb) hb')
 | mp n kd clock b kvs hb=>intro M bs v h;cases h with | mp _ _ _ b' _ hb'=>exact .mp _ _ _ b' _ (kL (lt _ _ hb) hb')
 | mit n since seen last b=>intro M bs v h;cases h with | mit _ _ _ _ b'=>exact .mit _ _ _ _ b'
 | mo kd clock b kvs=>intro M bs v h;cases h with | mo _ _ b' _=>exact .mo _ _ b' _
 | mz b=>intro M bs v h;cases h with | mz b'=>exact .mz b'
theorem xE (he:∀(d:D),d∈es->∀e∈d.cells,∀M bs v,R M bs e v->R M (bs.take N) e v):∀w M bs X h p v,Own w M bs X h p (.xs k es) v->Own w M (bs.take N) X h p (.xs k es) v:=by
 intro w M bs X h p v ho;cases ho with
 | xs _ _ _ _ ho=>
  refine .xs _ _ _ _ ?_;rcases ho with ho | ⟨b,n,cap,cur,E,e1,o1,o2,o3,o4,o5,o6,o7,o8,o9,o10,o11⟩
  .exact .inl ho
  refine .inr ⟨b,n,cap,cur,E,e1,o1,o2,o3,o4,o5,o6,o7,o8,o9,o10,fun i d j e a1 a2=>?_⟩;obtain⟨x,x1,x2⟩:=o11 i d j e a1 a2;exact⟨x,x1,he d (aS a1) e (aS a2) _ _ _ x2⟩
 | flat _ _ _ hf=>simp [D.flat] at hf
theorem Qc {since last:Nat} {seen:List Nat} (hn:n<N):∀w M bs X h p v,Own w M bs X h p (.mit n since seen last) v->Own w M (bs.take N) X h p (.mit n since seen last) v:=by
 intro w M bs X h p v ho;cases ho with
 | mit _ _ _ _ _ _ ho=>
  obtain⟨b,bm,e1,o1,o2⟩:=ho;exact .mit _ _ _ _ _ _ ⟨b,bm,e1,kL hn o1,o2⟩
 | flat _ _ _ hf=>simp [D.flat] at hf
theorem Fe (hn:n<N)(he:∀(k:Value) (s:Nat) (d:D),(k,s,d)∈kvs->∀M bs v,R M bs d v->R M (bs.take N) d v):∀w M bs X h p v,Own w M bs X h p (.mp n kd clock kvs) v->Own w M (bs.take N) X h p (.mp n kd clock kvs) v:=by
 intro w M bs X h p v ho;cases ho with
 | mp _ _ _ _ _ _ ho=>
  obtain⟨b,es,e1,o1,o2,o3,o4,o5,o5b,o6⟩:=ho;refine .mp _ _ _ _ _ _ ⟨b,es,e1,kL hn o1,o2,o3,o4,o5,o5b,fun i k s d e a1 a2=>?_⟩;obtain⟨r1,r2,r3,r4⟩:=o6 i k s d e a1 a2;exact⟨r1,r2,he k s d (aS a1) _ _ _ r3,r4⟩
 | flat _ _ _ hf=>simp [D.flat] at hf
theorem Fu (he:∀(k:Value) (s:Nat) (d:D),(k,s,d)∈kvs->∀M bs v,R M bs d v->R M (bs.take N) d v):∀w M bs X h p v,Own w M bs X h p (.mo kd clock kvs) v->Own w M (bs.take N) X h p (.mo kd clock kvs) v:=by
 intro w M bs X h p v ho;cases ho with
 | mo _ _ _ _ _ ho=>
  obtain⟨b,es,e1,o2,o3,o4,o5,o5b,o6⟩:=ho;refine .mo _ _ _ _ _ ⟨b,es,e1,o2,o3,o4,o5,o5b,fun i k s d e a1 a2=>?_⟩;obtain⟨r1,r2,r3,r4⟩:=o6 i k s d e a1 a2;exact⟨r1,r2,he k s d (aS a1) _ _ _ r3,r4⟩
 | flat _ _ _ hf=>simp [D.flat] at hf
theorem aLc {w0:World} {M0:Mem} {X0:Nat->Option jK} {h0:Holder} {p0:List Nat} {d:D} {v0:Value} (ho:Own w0 M0 bs0 X0 h0 p0 d v0)(hN:bs0.length<=N):R M0 bs0 d v0->∀w M bs X h p v,Own w M bs X h p d v->Own w M (bs.take N) X h p d v:=by
 induction ho with
 | sl p es v ho=>
  intro _ w M bs X h p v h';cases h' with
  | sl _ _ _ ho'=>exact .sl _ _ _ ho'
  | flat _ _ _ hf=>exact .flat _ _ _ hf
 | xs p k es v ho=>
  intro _;rcases ho with ⟨rfl,_⟩ | ⟨b,n,cap,cur,E,e1,o1,o2,o3,o4,o5,o6,o7,o8,o9,o10,o11⟩
  .exact xE fun d hd=>by simp at hd
  refine xE fun d hd e he=>?_;obtain⟨i,hi⟩:=dY hd;obtain⟨j,hj⟩:=dY he;obtain⟨x,x1,x2⟩:=o11 i d j e hi hj;exact scR x2 hN
 | mp p n kd clock kvs v ho=>
  intro _;obtain⟨b,es,e1,o1,o2,o3,o4,o5,_,o6⟩:=ho;refine Fe (lX (aH.1 o1).1 hN) fun k s d hd=>?_;obtain⟨i,hi⟩:=dY hd;have hlt:=(aH.1 hi).1;rw [<- o5] at hlt;exact scR (o6 i k s d _ hi (aV hlt)).2.2.1 hN
 | mit p n since seen last v ho=>
  intro _;obtain⟨b,bm,e1,o1,_⟩:=ho;exact Qc (lX (aH.1 o1).1 hN)
 | mo p kd clock kvs v ho=>
  intro _;obtain⟨b,es,e1,o2,o3,o4,o5,_,o6⟩:=ho;refine Fu fun k s d hd=>?_;obtain⟨i,hi⟩:=dY hd;have hlt:=(aH.1 hi).1;rw [<- o5] at hlt;exact scR (o6 i k s d _ hi (aV hlt)).2.2.1 hN
 | agg p cs vs hr ih =>
  intro hR w M bs X h p v h';cases hR with
  | agg _ _ hl hrr h1=>
  cases h' with
  | agg _ _ vs' hr'=>
   refine .agg _ _ vs' fun i d x a1 a2=>?_;have hi:i<vs.size:=by rw [hl];exact(aH.1 a1).1
   exact ih i d _ a1 (aV hi) (hrr i d _ a1 (aV hi)) _ _ _ _ _ _ _ (hr' i d x a1 a2)
  | flat _ _ _ hf=>exact .flat _ _ _ hf
 | tup p cs vs hr ih =>
  intro hR w M bs X h p v h';cases hR with
  | tup _ _ hl hrr=>
  cases h' with
  | tup _ _ vs' hr'=>
   refine .tup _ _ vs' fun i d x a1 a2=>?_;have hi:i<vs.size:=by rw [hl];exact(aH.1 a1).1
   exact ih i d _ a1 (aV hi) (hrr i d _ a1 (aV hi)) _ _ _ _ _ _ _ (hr' i d x a1 a2)
  | flat _ _ _ hf=>exact .flat _ _ _ hf
 | flat p d v hf=>intro _ w M bs X h p v _;exact .flat _ _ _ hf
theorem Sc.v (x:Value):Sc N (.v x):=⟨fun M bs v h=>by cases h with | v _ h=>exact .v _ h,fun w M bs X h p v _=> .flat _ _ _ rfl⟩
theorem Sc.any :Sc N .any:=⟨fun M bs v _=> .any _,fun w M bs X h p v _=> .flat _ _ _ rfl⟩
theorem Sc.ref {off:Nat} (hn:n<N):Sc N (.ref n off):=⟨fun M bs v h=>by cases h with | ref _ _ b hb=>exact .ref _ _ b (kL hn hb),fun w M bs X h p v _=> .flat _ _ _ rfl⟩
theorem Sc.ifc {t:Nat} {d:D} (hd:Sc N d):Sc N (.ifc t d):=⟨fun M bs v h=>by cases h with | ifc _ _ x hx=>exact .ifc _ _ x (hd.1 _ _ _ hx),fun w M bs X h p v _=> .flat _ _ _ rfl⟩
theorem Sc.xl :Sc N (.xl n):=⟨fun M bs v h=>by cases h with | xl a _ cap hc hm ha=>exact .xl a _ cap hc hm ha,fun w M bs X h p v _=> .flat _ _ _ rfl⟩
theorem Sc.mref (hn:n<N):Sc N (.mref n):=⟨fun M bs v h=>by cases h with | mref _ b hb=>exact .mref _ b (kL hn hb),fun w M bs X h p v _=> .flat _ _ _ rfl⟩
theorem Sc.mp (hn:n<N)(he:∀(k:Value) (s:Nat) (d:D),(k,s,d)∈kvs->Sc N d):Sc N (.mp n kd clock kvs):=
 ⟨fun M bs v h=>by cases h with | mp _ _ _ b _ hb=>exact .mp _ _ _ b _ (kL hn hb),Fe hn fun k s d hd=>(he k s d hd).1⟩
theorem Sc.mz :Sc N .mz:=⟨fun M bs v h=>by cases h with | mz b=>exact .mz b,fun w M bs X h p v _=> .flat _ _ _ rfl⟩
theorem Sc.mo (he:∀(k:Value) (s:Nat) (d:D),(k,s,d)∈kvs->Sc N d):Sc N (.mo kd clock kvs):=
 ⟨fun M bs v h=>by cases h with | mo _ _ b _=>exact .mo _ _ b _,Fu fun k s d hd=>(he k s d hd).1⟩
theorem Sc.xs (he:∀d∈es,∀e∈d.cells,Sc N e):Sc N (.xs k es):=
 ⟨fun M bs v h=>by cases h with | xs _ _ a n cap hn hc hm ha=>exact .xs _ _ a n cap hn hc hm ha,xE fun d hd e h=>(he d hd e h).1⟩
theorem Sc.sl {o:Bool} (he:∀d∈es,Sc N d):Sc N (.sl o es):=
 ⟨fun M bs v h=>by
  cases h with
  | nil=>exact .nil _
  | emp o a cap hm=>exact .emp _ a cap hm
  | sl _ _ b off n cap k vs hl hn hk hc hm hr hs hx=>exact .sl _ _ b off n cap k vs hl hn hk hc hm (fun i d x a1 a2=>(he d (aS a1)).1 _ _ _ (hr i d x a1 a2)) hs hx,
 fun w M bs X h p v h'=>by
  cases h' with
  | sl _ _ _ ho'=>exact .sl _ _ _ ho'
  | flat _ _ _ hf=>exact .flat _ _ _ hf⟩
theorem Sc.agg {cs:List D} (he:∀d∈cs,Sc N d):Sc N (.agg cs):=
 ⟨fun M bs v h=>by
  cases h with
  | agg _ vs hl hr h1=>exact .agg _ vs hl (fun i d x a1 a2=>(he d (aS a1)).1 _ _ _ (hr i d x a1 a2)) h1,
 fun w M bs X h p v h'=>by
  cases h' with
  | agg _ _ vs hr=>exact .agg _ _ vs fun i d x a1 a2=>(he d (aS a1)).2 _ _ _ _ _ _ _ (hr i d x a1 a2)
  | flat _ _ _ hf=>exact .flat _ _ _ hf⟩
theorem Sc.tup {cs:List D} (he:∀d∈cs,Sc N d):Sc N (.tup cs):=
 ⟨fun M bs v h=>by
  cases h with
  | tup _ vs hl hr=>exact .tup _ vs hl (fun i d x a1 a2=>(he d (aS a1)).1 _ _ _ (hr i d x a1 a2)),
 fun w M bs X h p v h'=>by
  cases h' with
  | tup _ _ vs hr=>exact .tup _ _ vs fun i d x a1 a2=>(he d (aS a1)).2 _ _ _ _ _ _ _ (hr i d x a1 a2)
  | flat _ _ _ hf=>exact .flat _ _ _ hf⟩
theorem Sc.map {f:α->D} {l:List α} (h:∀a,Sc N (f a)):∀d∈l.map f,Sc N d:=fun d hd=>by
 obtain⟨a,_,rfl⟩:=bY.1 hd;exact h a
theorem Ct.trim (h:Ct P f args σ Q)
  (hq:∀r σ',Q r σ'->∃τ J,σ'=τ++J/\τ.length=σ.length/\Sc σ.length r/\(∀(n:Nat) (cs:List D),τ[n]?=some cs->σ[n]?=some cs\/∀d∈cs,Sc σ.length d)/\Q' r τ):Ct P f args σ Q':=by
 refine⟨h.1,fun w g vs hs hb ho=>(h.2 w g vs hs hb ho).mono ?_⟩;rintro e w' ⟨r,σ',x,g',rfl,hQ,hb',hf,hk⟩;obtain⟨τ,J,rfl,hl,hr,hτ,hQ'⟩:=hq r σ' hQ;have hol:g.bs.length=σ.length:=ho.ol;have hol':g'.bs.length=(τ++J).length:=hk.ol;have sc:∀(n:Nat) (cs:List D),τ[n]?=some cs->∀d∈cs,Sc σ.length d:=by
  intro n cs hn;rcases hτ n cs hn with h1 | h1
  .have hnl:n<g.bs.length:=by rw [hol];exact(aH.1 h1).1
   rcases ho.obj n _ cs (aN hnl) h1 with rfl | ⟨cur,E,o1,o2,o3,o4,o5⟩
   .intro d hd;simp at hd
   intro d hd;obtain⟨i,hi⟩:=dY hd;have hil:i<cur.size:=by rw [o2];exact(aH.1 hi).1
   obtain⟨r1,r2,_⟩:=o5 i d _ hi (aV hil);exact⟨scR r1 (by omega),aLc r2 (by omega) r1⟩
  exact h1
 refine⟨r,τ,x, { g' with bs:=g'.bs.take σ.length },rfl,hQ',hb',⟨hf.os,hf.tape,hf.output,hf.size,hf.keep,hf.mono,fun n b hn=>?_⟩,⟨hk.mem,hk.xlt,fun t=>?_,hk.ll,fun n b cs h1 h2=>by simp [St.ofRes] at h2,?_,fun n b cs h1 h2=>?_⟩⟩
 .exact kL (by rw [<- hol];exact(aH.1 hn).1) (hf.bs n b hn)
 .have hsl:=hk.slot t;show SlotOk w' _ t (eP [r] t) _
  have hsl':SlotOk w' g' t (eP [r] t) (if t=0 then x else undef):=hsl
  match t with
  | 0=>exact⟨hr.1 _ _ _ hsl'.1,hr.2 _ _ _ _ _ _ _ hsl'.2⟩
  | t+1=>exact⟨.any _,.flat _ _ _ rfl⟩
 .show(g'.bs.take σ.length).length=τ.length
  rw [bB,hol',hl];simp;omega
 have h2':τ[n]?=some cs:=h2;have h1':g'.bs[n]?=some b:=by
  have:(g'.bs.take σ.length)[n]?=some b:=h1;rw [dX] at this;split at this
  .exact this
  cases this
 have hnl:=(aH.1 h2').1;have:=hk.obj n b cs h1' (by show(τ++J)[n]?=some cs;rw [aU hnl];exact h2');rcases this with rfl | ⟨cur,E,o1,o2,o3,o4,o5⟩
 .exact .inl rfl
 refine .inr ⟨cur,E,o1,o2,o3,o4,fun i d y a1 a2=>?_⟩;obtain⟨r1,r2,r3⟩:=o5 i d y a1 a2;have hsc:=sc n cs h2' d (aS a1);exact⟨hsc.1 _ _ _ r1,hsc.2 _ _ _ _ _ _ _ r2,r3⟩
end
section
variable {P:Program}
theorem Ct.toX {Z:List (List D)->Prop} (h:Ct P f args σ Q)(hq:∀r σ',Q r σ'->rJ k es r/\Z σ'):Ct P f args σ (fun r σ'=>r= .xs k es/\Z σ'):=by
 refine⟨h.1,fun w g vs hs hb ho=>(h.2 w g vs hs hb ho).mono ?_⟩;rintro e w' ⟨r,σ',x,g',rfl,hQ,hb',hf,hk⟩;obtain⟨hbase,hz⟩:=hq r σ' hQ;have hsl:=hk.slot 0;have hsl':SlotOk w' g' 0 (.d r) x:=hsl;obtain⟨hO,_,a,n,cap,rfl,hn,ha⟩:=Bi hbase hsl';refine⟨_,σ',_,g',rfl,⟨rfl,hz⟩,hb',hf,?_⟩;have hR:R g'.M g'.bs (.xs k es) (.slice a n cap):=by
  rcases hO with ⟨rfl,a',e1⟩ | ⟨b,n',cap',cur,E,e1,o1,o2,o3,o4,o5,o6,o7,_⟩
  .simp only [Value.slice.injEq] at e1;obtain⟨rfl,rfl,rfl⟩:=e1;exact .xs k [] a 0 0 rfl (bD _) (cH _) (fun _=>⟨rfl,rfl⟩)
  simp only [Value.slice.injEq] at e1;obtain⟨rfl,rfl,rfl⟩:=e1;exact .xs k es _ _ _ o5 o6 o7 (by simp)
 have b3:=hk.set 0 (.d (.xs k es)) (.slice a n cap) ⟨hR,.xs _ _ _ _ hO⟩;have e:(St.ofRes r σ').set 0 (.d (.xs k es))=St.ofRes (.xs k es) σ':=by
  simp only [St.ofRes,St.set];congr 1;funext u
  match u with
  | 0=>rfl
  | u+1=>rfl
 rw [e] at b3;have ev':(fun u=>if u=0 then Value.slice a n cap else if u=0 then Value.slice a n cap else undef)=fun t=>if t=0 then Value.slice a n cap else undef:=by
  funext u;by_cases h:u=0 <;> simp [h]
 rw [ev'] at b3;exact b3
theorem Ct.strip (h:Ct P f args σ Q)(hq:∀r σ',Q r σ'->r.plain=true/\Q' r.strip σ'):Ct P f args σ Q':=by
 refine⟨h.1,fun w g vs hs hb ho=>(h.2 w g vs hs hb ho).mono ?_⟩;rintro e w' ⟨r,σ',x,g',rfl,hQ,hb',hf,hk⟩;obtain⟨hp,hz⟩:=hq r σ' hQ;have hsl:SlotOk w' g' 0 (.d r) x:=hk.slot 0;refine⟨_,σ',x,g',rfl,hz,hb',hf,?_⟩;have b3:=hk.set 0 (.d r.strip) x ⟨hsl.1.strip,jY hsl.1 (jT hp)⟩;have e:(St.ofRes r σ').set 0 (.d r.strip)=St.ofRes r.strip σ':=by
  simp only [St.ofRes,St.set];congr 1;funext u
  match u with
  | 0=>rfl
  | u+1=>rfl
 rw [e] at b3;have ev':(fun u=>if u=0 then x else if u=0 then x else undef)=fun t=>if t=0 then x else undef:=by
  funext u;by_cases h:u=0 <;> simp [h]
 rw [ev'] at b3;exact b3
theorem eE (f:α->D)(l:List α)(rest:List D)(i:Nat)(h:i<l.length):(l.map f++rest)[i]?=some (f l[i]):=by
 rw [aU (by simpa using h)];simp [h]
theorem gD (f:α->D)(l:List α)(rest:List D)(i:Nat)(x:α)(h:i<l.length):List.take i (l.map f++rest)++ [f x]++List.drop (i+1) (l.map f++rest)=(l.set i x).map f++rest:=by
 apply lR;intro j;have hs:=eA (cs:=l.map f++rest) (ds:= [f x]) (off:=i) (i:=j) (by simp;omega);simp only [bU,dO,dT] at hs;rw [hs];by_cases hj:j<l.length
 .rw [aU (by simpa using hj),aU (by simpa using hj),bP,bP,bS];by_cases h1:j<i
  .rw [aR h1,aG (by omega)]
  rw [aG h1];by_cases h2:j=i
  .subst h2;simp [h]
  rw [aG (by omega),aG (by omega)]
 rw [bI (by simpa using hj),bI (by simpa using hj),aG (by omega),aG (by omega)];simp
end
end Go.Vm
