import Derived.Test.YtbgfljpnhhdkoaaGreatVm22
set_option linter.all false
namespace Go.Vm
open Go
variable {N clock k n:Nat}{P:Program}{Q:Exit->St->Prop}{Q':D->List (List D)->Prop}{args cs es:List D}{bs0:List Nat}{c:Code}{f:FuncId}{g:Gh}{kd:TypeDesc}{kvs:List (Value×Nat×D)}{l:List (Nat×Slot)}{loc obj σ:List (List D)}{st:St}{val:Nat->Value}{w:World}{α:Type}
section
def Sc(N:Nat)(d:D):Prop:=(∀M bs v,R M bs d v->R M (bs.take N) d v)/\(∀w M bs X h p v,Own w M bs X h p d v->Own w M (bs.take N) X h p d v)
theorem oF {bs:List Nat} {b:Nat} (hn:n<N)(h:bs[n]?=some b):(bs.take N)[n]?=some b:=by
  rw [eN,aK hn];exact h
theorem scR {M0 : Mem} {d : D} {v0 : Value} (h : R M0 bs0 d v0) (hN : bs0.length <= N) : ∀ M bs v, R M bs d v -> R M (bs.take N) d v := by
  have lt:∀(n b:Nat),bs0[n]?=some b->n<N:=fun n b hb=>sF (aP.1 hb).1 hN;induction h with
  | any x=>intro M bs v _;exact .any _
  | v x hx=>intro M bs v h;cases h with | v _ h=>exact .v _ h
  | nil o =>
    intro M bs v h;cases h with
    | nil=>exact .nil _
    | emp o a cap hm=>exact .emp _ a cap hm
    | sl o es b off n cap k vs hl hn hk hc hm hr hs hx=>exact .sl _ [] b off n cap k vs hl hn hk hc hm (fun i d x a=>by simp at a) hs hx
  | emp o a cap hm =>
    intro M bs v h;cases h with
    | nil=>exact .nil _
    | emp o a cap hm=>exact .emp _ a cap hm
    | sl o es b off n cap k vs hl hn hk hc hm hr hs hx=>exact .sl _ [] b off n cap k vs hl hn hk hc hm (fun i d x a=>by simp at a) hs hx
  | sl o es b off n cap k vs hl hn hk hc hm hr hs hx ih =>
    intro M bs v h;cases h with
    | nil=>exact .nil _
    | emp o a cap hm=>exact .emp _ a cap hm
    | sl o' es' b' off' n' cap' k' vs' hl' hn' hk' hc' hm' hr' hs' hx' =>
      refine .sl _ _ b' off' n' cap' k' vs' hl' hn' hk' hc' hm' (fun i d x a1 a2=>?_) hs' hx';have hi:i<vs.length:=by rw [hl];exact(aP.1 a1).1
      exact ih i d _ a1 (aS hi) M bs x (hr' i d x a1 a2)
  | agg cs vs hl hr h1 ih =>
    intro M bs v h;cases h with
    | agg _ vs' hl' hr' h1' =>
      refine .agg _ vs' hl' (fun i d x a1 a2=>?_) h1';have hi:i<vs.size:=by rw [hl];exact(aP.1 a1).1
      exact ih i d _ a1 (bR hi) M bs x (hr' i d x a1 a2)
  | tup cs vs hl hr ih =>
    intro M bs v h;cases h with
    | tup _ vs' hl' hr' =>
      refine .tup _ vs' hl' (fun i d x a1 a2=>?_);have hi:i<vs.size:=by rw [hl];exact(aP.1 a1).1
      exact ih i d _ a1 (bR hi) M bs x (hr' i d x a1 a2)
  | adr cs b off vs hl hr hx ih =>
    intro M bs v h;cases h with
    | adr _ b' off' vs' hl' hr' hx' =>
      refine .adr _ b' off' vs' hl' (fun i d x a1 a2=>?_) hx';have hi:i<vs.length:=by rw [hl];exact(aP.1 a1).1
      exact ih i d _ a1 (aS hi) M bs x (hr' i d x a1 a2)
  | ref n off b hb=>intro M bs v h;cases h with | ref _ _ b' hb'=>exact .ref _ _ b' (oF (lt _ _ hb) hb')
  | clo f first caps v1 v2 l1 l2 h1 h2 ih1 ih2 =>
    intro M bs v h;cases h with
    | clo _ _ _ w1 w2 m1 m2 k1 k2 =>
      refine .clo _ _ _ w1 w2 m1 m2 (fun i d x a1 a2=>?_) (fun i d x a1 a2=>?_)
      . have hi : i < v1.size := by rw [l1]; exact (aP.1 a1).1
        exact ih1 i d _ a1 (bR hi) M bs x (k1 i d x a1 a2)
      have hi:i<v2.size:=by rw [l2];exact(aP.1 a1).1
      exact ih2 i d _ a1 (bR hi) M bs x (k2 i d x a1 a2)
  | ifc t d x h ih=>intro M bs v h;cases h with | ifc _ _ x' h'=>exact .ifc _ _ _ (ih M bs x' h')
  | xs k es a n cap hn hc hm ha=>intro M bs v h;cases h with | xs _ _ a' n' cap' hn' hc' hm' ha'=>exact .xs _ _ a' n' cap' hn' hc' hm' ha'
  | xl a n cap hc hm ha=>intro M bs v h;cases h with | xl a' _ cap' hc' hm' ha'=>exact .xl a' _ cap' hc' hm' ha'
  | slo n a len cap x hb hc hm=>intro M bs v h;cases h with | slo _ _ _ _ x' hb' hc' hm'=>exact .slo _ _ _ _ x' (fun h0=>by obtain⟨b,b1,_⟩:=hb h0;obtain⟨b',c1,c2⟩:=hb' h0;exact⟨b',oF (lt _ _ b1) c1,c2⟩) hc' hm'
  | mref n b hb=>intro M bs v h;cases h with | mref _ b' hb'=>exact .mref _ b' (oF (lt _ _ hb) hb')
  | mp n kd clock b kvs hb=>intro M bs v h;cases h with | mp _ _ _ b' _ hb'=>exact .mp _ _ _ b' _ (oF (lt _ _ hb) hb')
  | mit n since seen last b=>intro M bs v h;cases h with | mit _ _ _ _ b'=>exact .mit _ _ _ _ b'
  | mo kd clock b kvs=>intro M bs v h;cases h with | mo _ _ b' _=>exact .mo _ _ b' _
  | mz b=>intro M bs v h;cases h with | mz b'=>exact .mz b'
theorem He (he:∀(d:D),d∈es->∀e∈d.cells,∀M bs v,R M bs e v->R M (bs.take N) e v):∀w M bs X h p v,Own w M bs X h p (.xs k es) v->Own w M (bs.take N) X h p (.xs k es) v:=by
  intro w M bs X h p v ho;cases ho with
  | xs _ _ _ _ ho =>
    refine .xs _ _ _ _ ?_;rcases ho with ho | ⟨b,n,cap,cur,E,e1,o1,o2,o3,o4,o5,o6,o7,o8,o9,o10,o11⟩
    . exact .inl ho
    refine .inr ⟨b,n,cap,cur,E,e1,o1,o2,o3,o4,o5,o6,o7,o8,o9,o10,fun i d j e a1 a2=>?_⟩;obtain⟨x,x1,x2⟩:=o11 i d j e a1 a2;exact⟨x,x1,he d (bE a1) e (bE a2) _ _ _ x2⟩
  | flat _ _ _ hf=>simp [D.flat] at hf
theorem Zz {since last:Nat} {seen:List Nat} (hn:n<N):∀w M bs X h p v,Own w M bs X h p (.mit n since seen last) v->Own w M (bs.take N) X h p (.mit n since seen last) v:=by
  intro w M bs X h p v ho;cases ho with
  | mit _ _ _ _ _ _ ho =>
    obtain⟨b,bm,e1,o1,o2⟩:=ho;exact .mit _ _ _ _ _ _ ⟨b,bm,e1,oF hn o1,o2⟩
  | flat _ _ _ hf=>simp [D.flat] at hf
theorem Pe (hn:n<N)(he:∀(k:Value) (s:Nat) (d:D),(k,s,d)∈kvs->∀M bs v,R M bs d v->R M (bs.take N) d v):∀w M bs X h p v,Own w M bs X h p (.mp n kd clock kvs) v->Own w M (bs.take N) X h p (.mp n kd clock kvs) v:=by
  intro w M bs X h p v ho;cases ho with
  | mp _ _ _ _ _ _ ho =>
    obtain⟨b,es,e1,o1,o2,o3,o4,o5,o5b,o6⟩:=ho;refine .mp _ _ _ _ _ _ ⟨b,es,e1,oF hn o1,o2,o3,o4,o5,o5b,fun i k s d e a1 a2=>?_⟩;obtain⟨r1,r2,r3,r4⟩:=o6 i k s d e a1 a2;exact⟨r1,r2,he k s d (bE a1) _ _ _ r3,r4⟩
  | flat _ _ _ hf=>simp [D.flat] at hf
theorem Pc (he:∀(k:Value) (s:Nat) (d:D),(k,s,d)∈kvs->∀M bs v,R M bs d v->R M (bs.take N) d v):∀w M bs X h p v,Own w M bs X h p (.mo kd clock kvs) v->Own w M (bs.take N) X h p (.mo kd clock kvs) v:=by
  intro w M bs X h p v ho;cases ho with
  | mo _ _ _ _ _ ho =>
    obtain⟨b,es,e1,o2,o3,o4,o5,o5b,o6⟩:=ho;refine .mo _ _ _ _ _ ⟨b,es,e1,o2,o3,o4,o5,o5b,fun i k s d e a1 a2=>?_⟩;obtain⟨r1,r2,r3,r4⟩:=o6 i k s d e a1 a2;exact⟨r1,r2,he k s d (bE a1) _ _ _ r3,r4⟩
  | flat _ _ _ hf=>simp [D.flat] at hf
theorem aXf {w0:World} {M0:Mem} {X0:Nat->Option mV} {h0:Holder} {p0:List Nat} {d:D} {v0:Value} (ho:Own w0 M0 bs0 X0 h0 p0 d v0)(hN:bs0.length<=N):R M0 bs0 d v0->∀w M bs X h p v,Own w M bs X h p d v->Own w M (bs.take N) X h p d v:=by
  induction ho with
  | sl p es v ho =>
    intro _ w M bs X h p v h';cases h' with
    | sl _ _ _ ho'=>exact .sl _ _ _ ho'
    | flat _ _ _ hf=>exact .flat _ _ _ hf
  | xs p k es v ho =>
    intro _;rcases ho with ⟨rfl,_⟩ | ⟨b,n,cap,cur,E,e1,o1,o2,o3,o4,o5,o6,o7,o8,o9,o10,o11⟩
    . exact He fun d hd=>by simp at hd
    refine He fun d hd e he=>?_;obtain⟨i,hi⟩:=eW hd;obtain⟨j,hj⟩:=eW he;obtain⟨x,x1,x2⟩:=o11 i d j e hi hj;exact scR x2 hN
  | mp p n kd clock kvs v ho =>
    intro _;obtain⟨b,es,e1,o1,o2,o3,o4,o5,_,o6⟩:=ho;refine Pe (sF (aP.1 o1).1 hN) fun k s d hd=>?_;obtain⟨i,hi⟩:=eW hd;have hlt:=(aP.1 hi).1;rw [<- o5] at hlt;exact scR (o6 i k s d _ hi (bR hlt)).2.2.1 hN
  | mit p n since seen last v ho =>
    intro _;obtain⟨b,bm,e1,o1,_⟩:=ho;exact Zz (sF (aP.1 o1).1 hN)
  | mo p kd clock kvs v ho =>
    intro _;obtain⟨b,es,e1,o2,o3,o4,o5,_,o6⟩:=ho;refine Pc fun k s d hd=>?_;obtain⟨i,hi⟩:=eW hd;have hlt:=(aP.1 hi).1;rw [<- o5] at hlt;exact scR (o6 i k s d _ hi (bR hlt)).2.2.1 hN
  | agg p cs vs hr ih =>
    intro hR w M bs X h p v h';cases hR with
    | agg _ _ hl hrr h1=>
    cases h' with
    | agg _ _ vs' hr' =>
      refine .agg _ _ vs' fun i d x a1 a2=>?_;have hi:i<vs.size:=by rw [hl];exact(aP.1 a1).1
      exact ih i d _ a1 (bR hi) (hrr i d _ a1 (bR hi)) _ _ _ _ _ _ _ (hr' i d x a1 a2)
    | flat _ _ _ hf=>exact .flat _ _ _ hf
  | tup p cs vs hr ih =>
    intro hR w M bs X h p v h';cases hR with
    | tup _ _ hl hrr=>
    cases h' with
    | tup _ _ vs' hr' =>
      refine .tup _ _ vs' fun i d x a1 a2=>?_;have hi:i<vs.size:=by rw [hl];exact(aP.1 a1).1
      exact ih i d _ a1 (bR hi) (hrr i d _ a1 (bR hi)) _ _ _ _ _ _ _ (hr' i d x a1 a2)
    | flat _ _ _ hf=>exact .flat _ _ _ hf
  | flat p d v hf=>intro _ w M bs X h p v _;exact .flat _ _ _ hf
theorem Sc.v (x:Value):Sc N (.v x):=⟨fun M bs v h=>by cases h with | v _ h=>exact .v _ h,fun w M bs X h p v _=> .flat _ _ _ rfl⟩
theorem Sc.any :Sc N .any:=⟨fun M bs v _=> .any _,fun w M bs X h p v _=> .flat _ _ _ rfl⟩
theorem Sc.ref {off:Nat} (hn:n<N):Sc N (.ref n off):=⟨fun M bs v h=>by cases h with | ref _ _ b hb=>exact .ref _ _ b (oF hn hb),fun w M bs X h p v _=> .flat _ _ _ rfl⟩
theorem Sc.ifc {t:Nat} {d:D} (hd:Sc N d):Sc N (.ifc t d):=⟨fun M bs v h=>by cases h with | ifc _ _ x hx=>exact .ifc _ _ x (hd.1 _ _ _ hx),fun w M bs X h p v _=> .flat _ _ _ rfl⟩
theorem Sc.xl :Sc N (.xl n):=⟨fun M bs v h=>by cases h with | xl a _ cap hc hm ha=>exact .xl a _ cap hc hm ha,fun w M bs X h p v _=> .flat _ _ _ rfl⟩
theorem Sc.mref (hn:n<N):Sc N (.mref n):=⟨fun M bs v h=>by cases h with | mref _ b hb=>exact .mref _ b (oF hn hb),fun w M bs X h p v _=> .flat _ _ _ rfl⟩
theorem Sc.mp (hn:n<N)(he:∀(k:Value) (s:Nat) (d:D),(k,s,d)∈kvs->Sc N d):Sc N (.mp n kd clock kvs):=
  ⟨fun M bs v h=>by cases h with | mp _ _ _ b _ hb=>exact .mp _ _ _ b _ (oF hn hb),Pe hn fun k s d hd=>(he k s d hd).1⟩
theorem Sc.mz :Sc N .mz:=⟨fun M bs v h=>by cases h with | mz b=>exact .mz b,fun w M bs X h p v _=> .flat _ _ _ rfl⟩
theorem Sc.mo (he:∀(k:Value) (s:Nat) (d:D),(k,s,d)∈kvs->Sc N d):Sc N (.mo kd clock kvs):=
  ⟨fun M bs v h=>by cases h with | mo _ _ b _=>exact .mo _ _ b _,Pc fun k s d hd=>(he k s d hd).1⟩
theorem Sc.xs (he:∀d∈es,∀e∈d.cells,Sc N e):Sc N (.xs k es):=
  ⟨fun M bs v h=>by cases h with | xs _ _ a n cap hn hc hm ha=>exact .xs _ _ a n cap hn hc hm ha,He fun d hd e h=>(he d hd e h).1⟩
theorem Sc.sl {o:Bool} (he:∀d∈es,Sc N d):Sc N (.sl o es):=
  ⟨fun M bs v h=>by
    cases h with
    | nil=>exact .nil _
    | emp o a cap hm=>exact .emp _ a cap hm
    | sl _ _ b off n cap k vs hl hn hk hc hm hr hs hx=>exact .sl _ _ b off n cap k vs hl hn hk hc hm (fun i d x a1 a2=>(he d (bE a1)).1 _ _ _ (hr i d x a1 a2)) hs hx,
  fun w M bs X h p v h'=>by
    cases h' with
    | sl _ _ _ ho'=>exact .sl _ _ _ ho'
    | flat _ _ _ hf=>exact .flat _ _ _ hf⟩
theorem Sc.agg (he:∀d∈cs,Sc N d):Sc N (.agg cs):=
  ⟨fun M bs v h=>by
    cases h with
    | agg _ vs hl hr h1=>exact .agg _ vs hl (fun i d x a1 a2=>(he d (bE a1)).1 _ _ _ (hr i d x a1 a2)) h1,
  fun w M bs X h p v h'=>by
    cases h' with
    | agg _ _ vs hr=>exact .agg _ _ vs fun i d x a1 a2=>(he d (bE a1)).2 _ _ _ _ _ _ _ (hr i d x a1 a2)
    | flat _ _ _ hf=>exact .flat _ _ _ hf⟩
theorem Sc.tup (he:∀d∈cs,Sc N d):Sc N (.tup cs):=
  ⟨fun M bs v h=>by
    cases h with
    | tup _ vs hl hr=>exact .tup _ vs hl (fun i d x a1 a2=>(he d (bE a1)).1 _ _ _ (hr i d x a1 a2)),
  fun w M bs X h p v h'=>by
    cases h' with
    | tup _ _ vs hr=>exact .tup _ _ vs fun i d x a1 a2=>(he d (bE a1)).2 _ _ _ _ _ _ _ (hr i d x a1 a2)
    | flat _ _ _ hf=>exact .flat _ _ _ hf⟩
theorem Sc.map {f:α->D} {l:List α} (h:∀a,Sc N (f a)):∀d∈l.map f,Sc N d:=fun d hd=>by
  obtain⟨a,_,rfl⟩:=aV.1 hd;exact h a
theorem Ct.trim {Q:D->List (List D)->Prop} (h:Ct P f args σ Q)
    (hq:∀r σ',Q r σ'->∃τ J,σ'=τ++J/\τ.length=σ.length/\Sc σ.length r/\(∀(n:Nat) (cs:List D),τ[n]?=some cs->σ[n]?=some cs\/∀d∈cs,Sc σ.length d)/\Q' r τ):Ct P f args σ Q':=by
  refine⟨h.1,fun w g vs hs hb ho=>(h.2 w g vs hs hb ho).mono ?_⟩;rintro e w' ⟨r,σ',x,g',rfl,hQ,hb',hf,hk⟩;obtain⟨τ,J,rfl,hl,hr,hτ,hQ'⟩:=hq r σ' hQ;have hol:g.bs.length=σ.length:=ho.ol;have hol':g'.bs.length=(τ++J).length:=hk.ol;have sc:∀(n:Nat) (cs:List D),τ[n]?=some cs->∀d∈cs,Sc σ.length d:=by
    intro n cs hn;rcases hτ n cs hn with h1 | h1
    . have hnl : n < g.bs.length := by rw [hol]; exact (aP.1 h1).1
      rcases ho.obj n _ cs (aS hnl) h1 with rfl | ⟨cur,E,o1,o2,o3,o4,o5⟩
      . intro d hd;simp at hd
      intro d hd;obtain⟨i,hi⟩:=eW hd;have hil:i<cur.size:=by rw [o2];exact(aP.1 hi).1
      obtain⟨r1,r2,_⟩:=o5 i d _ hi (bR hil);exact⟨scR r1 (by omega),aXf r2 (by omega) r1⟩
    exact h1
  refine⟨r,τ,x, { g' with bs:=g'.bs.take σ.length },rfl,hQ',hb',⟨hf.os,hf.tape,hf.output,hf.size,hf.keep,hf.mono,fun n b hn=>?_⟩,⟨hk.mem,hk.xlt,fun t=>?_,hk.ll,fun n b cs h1 h2=>by simp [St.ofRes] at h2,?_,fun n b cs h1 h2=>?_⟩⟩
  . exact oF (by rw [<- hol];exact(aP.1 hn).1) (hf.bs n b hn)
  . have hsl := hk.slot t
    show SlotOk w' _ t (fT [r] t) _
    have hsl':SlotOk w' g' t (fT [r] t) (if t=0 then x else undef):=hsl
    match t with
    | 0=>exact⟨hr.1 _ _ _ hsl'.1,hr.2 _ _ _ _ _ _ _ hsl'.2⟩
    | t+1=>exact⟨.any _,.flat _ _ _ rfl⟩
  . show (g'.bs.take σ.length).length = τ.length
    rw [bG,hol',hl];simp;omega
  have h2':τ[n]?=some cs:=h2;have h1':g'.bs[n]?=some b:=by
    have:(g'.bs.take σ.length)[n]?=some b:=h1;rw [eN] at this;split at this
    . exact this
    cases this
  have hnl:=(aP.1 h2').1;have:=hk.obj n b cs h1' (by show(τ++J)[n]?=some cs;rw [bC hnl];exact h2');rcases this with rfl | ⟨cur,E,o1,o2,o3,o4,o5⟩
  . exact .inl rfl
  refine .inr ⟨cur,E,o1,o2,o3,o4,fun i d y a1 a2=>?_⟩;obtain⟨r1,r2,r3⟩:=o5 i d y a1 a2;have hsc:=sc n cs h2' d (bE a1);exact⟨hsc.1 _ _ _ r1,hsc.2 _ _ _ _ _ _ _ r2,r3⟩
end
section
theorem Ct.toX {Q:D->List (List D)->Prop} {Z:List (List D)->Prop} (h:Ct P f args σ Q)(hq:∀r σ',Q r σ'->wP k es r/\Z σ'):Ct P f args σ (fun r σ'=>r= .xs k es/\Z σ'):=by
  refine⟨h.1,fun w g vs hs hb ho=>(h.2 w g vs hs hb ho).mono ?_⟩;rintro e w' ⟨r,σ',x,g',rfl,hQ,hb',hf,hk⟩;obtain⟨hbase,hz⟩:=hq r σ' hQ;have hsl:=hk.slot 0;have hsl':SlotOk w' g' 0 (.d r) x:=hsl;obtain⟨hO,_,a,n,cap,rfl,hn,ha⟩:=Kb hbase hsl';refine⟨_,σ',_,g',rfl,⟨rfl,hz⟩,hb',hf,?_⟩;have hR:R g'.M g'.bs (.xs k es) (.slice a n cap):=by
    rcases hO with ⟨rfl,a',e1⟩ | ⟨b,n',cap',cur,E,e1,o1,o2,o3,o4,o5,o6,o7,_⟩
    . simp only [Value.slice.injEq] at e1
      obtain⟨rfl,rfl,rfl⟩:=e1;exact .xs k [] a 0 0 rfl (aW _) (iM _) (fun _=>⟨rfl,rfl⟩)
    simp only [Value.slice.injEq] at e1;obtain⟨rfl,rfl,rfl⟩:=e1;exact .xs k es _ _ _ o5 o6 o7 (by simp)
  have b3:=hk.set 0 (.d (.xs k es)) (.slice a n cap) ⟨hR,.xs _ _ _ _ hO⟩;have e:(St.ofRes r σ').set 0 (.d (.xs k es))=St.ofRes (.xs k es) σ':=by
    simp only [St.ofRes,St.set];congr 1;funext u
    match u with
    | 0=>rfl
    | u+1=>rfl
  rw [e] at b3;have ev':(fun u=>if u=0 then Value.slice a n cap else if u=0 then Value.slice a n cap else undef)=fun t=>if t=0 then Value.slice a n cap else undef:=by
    funext u;by_cases h:u=0 <;> simp [h]
  rw [ev'] at b3;exact b3
theorem Ct.strip {Q:D->List (List D)->Prop} (h:Ct P f args σ Q)(hq:∀r σ',Q r σ'->r.plain=true/\Q' r.strip σ'):Ct P f args σ Q':=by
  refine⟨h.1,fun w g vs hs hb ho=>(h.2 w g vs hs hb ho).mono ?_⟩;rintro e w' ⟨r,σ',x,g',rfl,hQ,hb',hf,hk⟩;obtain⟨hp,hz⟩:=hq r σ' hQ;have hsl:SlotOk w' g' 0 (.d r) x:=hk.slot 0;refine⟨_,σ',x,g',rfl,hz,hb',hf,?_⟩;have b3:=hk.set 0 (.d r.strip) x ⟨hsl.1.strip,nM hsl.1 (nH hp)⟩;have e:(St.ofRes r σ').set 0 (.d r.strip)=St.ofRes r.strip σ':=by
    simp only [St.ofRes,St.set];congr 1;funext u
    match u with
    | 0=>rfl
    | u+1=>rfl
  rw [e] at b3;have ev':(fun u=>if u=0 then x else if u=0 then x else undef)=fun t=>if t=0 then x else undef:=by
    funext u;by_cases h:u=0 <;> simp [h]
  rw [ev'] at b3;exact b3
theorem fL (f:α->D)(l:List α)(rest:List D)(i:Nat)(h:i<l.length):(l.map f++rest)[i]?=some (f l[i]):=by
  rw [bC (by simpa using h)];simp [h]
theorem iU (f:α->D)(l:List α)(rest:List D)(i:Nat)(x:α)(h:i<l.length):List.take i (l.map f++rest)++ [f x]++List.drop (i+1) (l.map f++rest)=(l.set i x).map f++rest:=by
  apply qF;intro j;have hs:=fH (cs:=l.map f++rest) (ds:= [f x]) (off:=i) (i:=j) (by simp;omega);simp only [bJ,cY,eL] at hs;rw [hs];by_cases hj:j<l.length
  . rw [bC (by simpa using hj), bC (by simpa using hj), cF, cF, cL]
    by_cases h1:j<i
    . rw [aK h1,aD (by omega)]
    rw [aD h1];by_cases h2:j=i
    . subst h2;simp [h]
    rw [aD (by omega),aD (by omega)]
  rw [bX (by simpa using hj),bX (by simpa using hj),aD (by omega),aD (by omega)];simp
end
variable {rr:Option Nat} {dfr:List Deferred}
theorem Ok.openXO_aux (h : Ok w g st val) {m i b0 : Nat} {news:List D} {d0 d1 : D} {X' : Nat -> Option mV}
    (hm:st.obj[m]?=some cs) (hi:cs[i]?=some d0)
    (ho1:∀(b':Nat) (t:mV),g.X b'=some t->t≠(.obj m, [i])->X' b'=some t) (ho2:∀b',g.X b'=none->X' b'=none) (ho3:∀(b':Nat) (t:mV),X' b'=some t->b'<w.heap.size)
    (hrs:∀(b:Nat) (cur:Array Value) (E:TypeId) (v:Value),g.bs[m]?=some b->w.heap[b]?=some (.cells cur E (0,0))->cur[i]?=some v->R g.M (g.bs++ [b0]) d1 v) (hfl:d1.flat=true)
    (hbox:∀(g':Gh),g'= { g with X:=X',bs:=g.bs++ [b0] } ->BoxOk w g' (.obj st.obj.length) b0 news):
    ∃g':Gh,g'.bl=g.bl/\Fr w g w g'/\Ok w g' { st with obj:=st.obj.set m (cs.set i d1)++ [news] } val:=by
  have hml:=(aP.1 hm).1;have hbs:∀(n b':Nat),g.bs[n]?=some b'->(g.bs++ [b0])[n]?=some b':=fun n b' hb=>by
    rw [bC (by exact(aP.1 hb).1)];exact hb
  have other:∀(hd:Holder),hd≠ .obj m->∀(b':Nat) (q:List Nat),g.X b'=some (hd,q)->w.heap[b']?=w.heap[b']?/\(∀o,g.M b' o=none->g.M b' o=none)/\X' b'=some (hd,q):=
    fun hd hne b' q hx=>⟨rfl,fun _ h=>h,ho1 b' _ hx (by intro e;simp only [gI] at e;exact hne e.1)⟩
  refine⟨{ g with X:=X',bs:=g.bs++ [b0] },rfl,⟨rfl,rfl,rfl,aW _,fun b' hb' hx=>⟨rfl,ho2 b' hx,fun _=>rfl⟩,fun _ _ _ h=>h,hbs⟩,h.mem,ho3,fun u=>?_,h.ll,fun n b' cs h1 h2=>(h.loc n b' cs h1 h2).keep (fun _ _ _ h=>h) hbs (other _ (by simp)),by simp [h.ol],fun n b' cs' h1 h2=>?_⟩
  . exact(h.slot u).keep (fun _ _ _ h=>h) hbs (fun _ _ h=>h) (other _ (by simp))
  by_cases hn:n<st.obj.length
  . have h1' : g.bs[n]? = some b' := by rw [bC (by rw [h.ol]; exact hn)] at h1; exact h1
    have h2':(st.obj.set m (cs.set i d1))[n]?=some cs':=by rw [bC (by simpa using hn)] at h2;exact h2
    rw [cL] at h2';split at h2'
    . rename_i e
      subst e;simp only [bF] at h2';subst h2';have hne:cs≠ []:=by rintro rfl;simp at hi
      obtain⟨cur,E,m1,m2,m3,m4,m5⟩:=(h.obj m b' cs h1' hm).resolve_left hne;refine .inr ⟨cur,E,m1,by simpa using m2,ho1 _ _ m3 (by simp),m4,fun j d x a1 a2=>?_⟩;rw [cL] at a1;split at a1
      . rename_i e
        subst e;have hil:=(aP.1 hi).1;have hd:d1=d:=by first | (simpa [hil] using a1) | exact a1
        subst hd;obtain⟨r1,r2,r3⟩:=m5 i d0 x hi a2;exact⟨hrs b' cur E x h1' m1 a2,.flat _ _ _ hfl,r3⟩
      rename_i e;obtain⟨r1,r2,r3⟩:=m5 j d x a1 a2;refine⟨r1.mono (fun _ _ _ h=>h) hbs,r2.move (fun _ _ _ h=>h) hbs [j] (fun b2 q hX=>⟨rfl,fun _ h=>h,ho1 b2 _ hX (by intro e2;simp at e2;exact e e2.1.symm)⟩),r3⟩
    rename_i e;exact(h.obj n b' cs' h1' h2').keep (fun _ _ _ h=>h) hbs (other _ (by simp;exact fun e'=>e e'.symm))
  have hlt:=(aP.1 h2).1;simp at hlt;have hn':n=st.obj.length:=by omega
  subst hn';have e1:b'=b0:=by
    have h1':=h1;rw [<- h.ol] at h1';simpa using h1'.symm
  have e2:cs'=news:=by
    rw [bX (by simp)] at h2;simpa using h2.symm
  subst e1;subst e2;exact hbox _ rfl
theorem Ok.openXO (h : Ok w g st val) (m i k : Nat) (es cs : List D) (hm : st.obj[m]? = some cs) (hi : cs[i]? = some (.xs k es)) (hk0 : 0 < k) :
    ∃ (cap : Nat) (rest : List D) (g' : Gh), es.length <= cap /\ cap <= maxLen /\ rest.length = (cap - es.length) * k /\ (∀ d ∈ es, d.ncells = k /\ d.arr = true) /\ g'.bl = g.bl /\ Fr w g w g' /\
      Ok w g' { st with obj:=st.obj.set m (cs.set i (.slo st.obj.length 0 es.length cap))++ [es.flatMap D.cells++rest] } val:=by
  have hml:=(aP.1 hm).1;obtain⟨bm,hbm⟩:∃bm,g.bs[m]?=some bm:=⟨_,aS (by rw [h.ol];exact hml)⟩;have hne:cs≠ []:=by rintro rfl;simp at hi
  obtain⟨curm,Em,m1,m2,m3,m4,m5⟩:=(h.obj m bm cs hbm hm).resolve_left hne;have hil:=(aP.1 hi).1;obtain⟨v,hvi⟩:∃v,curm[i]?=some v:=⟨_,bR (by rw [m2];exact hil)⟩;obtain⟨hr,ho,hone⟩:=m5 i _ v hi hvi;have hO:Zx w g.M g.bs g.X (.obj m, [i]) k es v:=by
    cases ho with
    | xs p k es v ho=>exact ho
    | flat p d v hf=>simp [D.flat] at hf
  rcases hO with ⟨rfl,a,hv⟩ | ⟨b,n,cap,cur,E,hv,o1,o2,o3,o4,o5,o6,o7,o8,o9,o10,o11⟩
  . have huniq : ∀ (b : Nat) (cur : Array Value) (E : TypeId) (v' : Value), g.bs[m]? = some b -> w.heap[b]? = some (.cells cur E (0, 0)) -> cur[i]? = some v' -> v' = v := by
      intro b cur E v' e1 e2 e3;rw [hbm] at e1;simp only [bF] at e1;subst e1;rw [m1] at e2;simp only [bF,Obj.cells.injEq] at e2;rw [<- e2.1,hvi] at e3;simpa using e3.symm
    obtain⟨g',q1,q2,q3⟩:=h.openXO_aux (d1:= .slo st.obj.length 0 0 0) (b0:=0) (news:= []) (X':=g.X) hm hi (fun b' t hx _=>hx) (fun _ h=>h) h.xlt (fun b cur E v' e1 e2 e3=>by
      rw [huniq b cur E v' e1 e2 e3,hv];exact .slo _ _ _ _ _ (fun h=>absurd h (by simp)) (by simp) (by simp)) rfl (fun g' _=> .inl rfl)
    exact⟨0, [],g',by simp,by simp,by simp,by simp,q1,q2,q3⟩
  have huniq:∀(b:Nat) (cur:Array Value) (E:TypeId) (v':Value),g.bs[m]?=some b->w.heap[b]?=some (.cells cur E (0,0))->cur[i]?=some v'->v'=v:=by
    intro b cur E v' e1 e2 e3;rw [hbm] at e1;simp only [bF] at e1;subst e1;rw [m1] at e2;simp only [bF,Obj.cells.injEq] at e2;rw [<- e2.1,hvi] at e3;simpa using e3.symm
  subst o5;have hlen:∀d∈es,d.cells.length=k:=fun d hd=>by
    obtain⟨i,hi⟩:=eW hd;rw [eH];exact(o10 i d hi).1
  have hfl:=sN es hlen;have hsub:es.length * k+(cap - es.length) * k=cap * k:=by rw [<- dB];congr 1;omega
  have hbs:∀(n b':Nat),g.bs[n]?=some b'->(g.bs++ [b])[n]?=some b':=fun n b' hb=>by
    rw [bC (by exact(aP.1 hb).1)];exact hb
  obtain⟨g',q1,q2,q3⟩:=h.openXO_aux (d1:= .slo st.obj.length 0 es.length cap) (b0:=b) (news:=es.flatMap D.cells++List.replicate ((cap - es.length) * k) .any) (X':=gM b (.obj st.obj.length, []) g.X) hm hi
    (fun b' t hx ht=>by
      have:b'≠b:=by intro e;subst e;rw [o1] at hx;simp only [bF] at hx;exact ht hx.symm
      simp only [gM,aD this];exact hx)
    (fun b' hx=>by
      have:b'≠b:=by intro e;subst e;rw [o1] at hx;cases hx
      simp only [gM,aD this];exact hx)
    (fun b' t hx=>by
      by_cases e:b'=b
      . subst e;exact h.xlt _ _ o1
      simp only [gM,aD e] at hx;exact h.xlt b' t hx)
    (fun b2 cur E v' e1 e2 e3=>by
      rw [huniq b2 cur E v' e1 e2 e3,hv];exact .slo _ _ _ _ _ (fun _=>⟨b,by rw [<- h.ol];simp,rfl⟩) o6 o7) rfl (fun g' hg=>by
      subst hg;refine .inr ⟨cur,E,o2,?_,by simp [gM],o8,fun i d x a1 a2=>?_⟩
      . rw [aZ,hfl,cR,hsub,o4]
      have h1c:=o9 i x a2;by_cases hi:i<es.length * k
      . rw [bC (by rw [hfl]; exact hi), uJ o3 es hlen, mC] at a1
        obtain⟨d0,b1,b2⟩:=a1;obtain⟨y,y1,y2⟩:=o11 _ d0 _ d b1 b2;have:i / k * k+i % k=i:=by rw [qU];exact yD i k
        rw [this,a2] at y1;have hyx:y=x:=by simpa using y1.symm
        subst hyx;have harr:=(o10 _ d0 b1).2;have hf:d.flat=true:=by
          unfold D.arr at harr;rw [gF] at harr;exact harr d (bE b2)
        exact⟨y2.mono (fun _ _ _ h=>h) hbs,.flat _ _ _ hf,h1c⟩
      rw [bX (by rw [hfl];omega)] at a1;have hd:d= .any:=qO (bE a1);subst hd;exact⟨.any _,.flat _ _ _ rfl,h1c⟩)
  exact⟨cap,_,g',o6,o7,by simp,fun d hd=>by
    obtain⟨i,hi⟩:=eW hd;exact o10 i d hi,q1,q2,q3⟩
theorem Ok.closeXO (h:Ok w g st val)(m i k N len cap:Nat)(es cs ds:List D)(hm:st.obj[m]?=some cs)(hi:cs[i]?=some (.slo N 0 len cap))(hN:st.obj[N]?=some ds)(hmN:m≠N)(hk:0<k)(hcs:ds.length=cap * k)(hl:es.length=len)
    (hes:∀d∈es,d.ncells=k/\d.arr=true) (he:es.flatMap D.cells<+:ds):
    ∃g':Gh,g'.bl=g.bl/\Fr w g w g'/\Ok w g' { st with obj:=(st.obj.set m (cs.set i (.xs k es))).set N [] } val:=by
  have hml:=(aP.1 hm).1;have hNl:=(aP.1 hN).1;obtain⟨bm,hbm⟩:∃bm,g.bs[m]?=some bm:=⟨_,aS (by rw [h.ol];exact hml)⟩;obtain⟨b,hbN⟩:∃b,g.bs[N]?=some b:=⟨_,aS (by rw [h.ol];exact hNl)⟩;have hne:cs≠ []:=by rintro rfl;simp at hi
  obtain⟨curm,Em,m1,m2,m3,m4,m5⟩:=(h.obj m bm cs hbm hm).resolve_left hne;have hil:=(aP.1 hi).1;obtain⟨v,hvi⟩:∃v,curm[i]?=some v:=⟨_,bR (by rw [m2];exact hil)⟩;obtain⟨hr,_,hone⟩:=m5 i _ v hi hvi;have hlen:∀d∈es,d.cells.length=k:=fun d hd=>by rw [eH];exact(hes d hd).1
  -- the tags
  obtain⟨X',t1,t2,t3,t4⟩:∃X':Nat->Option mV,(∀(b':Nat) (t:mV),g.X b'=some t->t.1≠ .obj N->X' b'=some t)/\(∀b',g.X b'=none->X' b'=none)/\(∀(b':Nat) (t:mV),X' b'=some t->b'<w.heap.size)/\
      (R g.M g.bs (.xs k es) v/\Zx w g.M g.bs X' (.obj m, [i]) k es v):=by
    cases hr with
    | slo _ _ _ _ x hb hc hmx=>
    rcases uX cap with hc0 | hcap0
    . subst hc0
      have hl0:len=0:=by omega
      subst hl0;have hes0:es= []:=nO hl;subst hes0;exact⟨g.X,fun _ _ h _=>h,fun _ h=>h,h.xlt,.xs k [] _ _ 0 rfl (aW _) hmx (fun _=>⟨rfl,rfl⟩),.inl ⟨rfl,_,rfl⟩⟩
    obtain⟨b',hb2,rfl⟩:=hb hcap0;have ebb:b'=b:=by rw [hbN] at hb2;simpa using hb2.symm
    subst ebb;have hdne:ds≠ []:=by
      intro e;rw [e] at hcs;have:0<cap * k:=qA hcap0 hk;simp at hcs;omega
    obtain⟨cur,E,o1,o2,o3,o4,o5⟩:=(h.obj N b' ds hb2 hN).resolve_left hdne;refine⟨gM b' (.obj m, [i]) g.X,fun b2 t hx ht=>?_,fun b2 hx=>?_,fun b2 t hx=>?_,.xs k es _ _ cap hl.symm (by omega) hmx (by simp),.inr ⟨b',len,cap,cur,E,rfl,by simp [gM],o1,hk,by rw [o2,hcs],hl.symm,hc,hmx,o4,fun o c ho=>?_,fun i d hi=>hes d (bE hi),fun i d j e a1 a2=>?_⟩⟩
    . have : b2 ≠ b' := by intro e; subst e; rw [o3] at hx; simp only [bF] at hx; subst hx; exact ht rfl
      simp only [gM,aD this];exact hx
    . have : b2 ≠ b' := by intro e; subst e; rw [o3] at hx; cases hx
      simp only [gM,aD this];exact hx
    . by_cases e : b2 = b'
      . subst e;exact h.xlt _ _ o3
      simp only [gM,aD e] at hx;exact h.xlt b2 t hx
    . have hlt := (dL.1 ho).1
      rw [o2] at hlt;exact(o5 o _ c (aS hlt) ho).2.2
    have hcell:=De hk es hlen a1 a2;obtain⟨rest,hrest⟩:=he;have hcc:ds[i * k+j]?=some e:=by
      rw [<- hrest,bC (by exact(aP.1 hcell).1)];exact hcell
    have hlt:=(aP.1 hcc).1;rw [<- o2] at hlt;exact⟨_,bR hlt,(o5 _ e _ hcc (bR hlt)).1⟩
  have other:∀(hd:Holder),hd≠ .obj N->∀(b':Nat) (q:List Nat),g.X b'=some (hd,q)->w.heap[b']?=w.heap[b']?/\(∀o,g.M b' o=none->g.M b' o=none)/\X' b'=some (hd,q):=
    fun hd hne b' q hx=>⟨rfl,fun _ h=>h,t1 b' _ hx hne⟩
  refine⟨{ g with X:=X' },rfl,⟨rfl,rfl,rfl,aW _,fun b' hb' hx=>⟨rfl,t2 b' hx,fun _=>rfl⟩,fun _ _ _ h=>h,fun _ _ h=>h⟩,h.mem,t3,fun u=>?_,h.ll,fun n b' cs h1 h2=>(h.loc n b' cs h1 h2).keep (fun _ _ _ h=>h) (fun _ _ h=>h) (other _ (by simp)),by simp [h.ol],fun n b' cs' h1 h2=>?_⟩
  . exact(h.slot u).keep (fun _ _ _ h=>h) (fun _ _ h=>h) (fun _ _ h=>h) (other _ (by simp))
  by_cases enN:n=N
  . subst enN
    exact .inl (by simpa [hNl] using h2.symm)
  by_cases enm:n=m
  . subst enm
    have h2':cs.set i (.xs k es)=cs':=by
      rw [cL,aD (fun e=>enN e.symm),cL] at h2;simpa [hml] using h2
    subst h2';have ebm:b'=bm:=by rw [hbm] at h1;simpa using h1.symm
    subst ebm;refine .inr ⟨curm,Em,m1,by simpa using m2,t1 _ _ m3 (by simp;exact enN),m4,fun j d x a1 a2=>?_⟩;rw [cL] at a1;split at a1
    . rename_i e
      subst e;have hd:D.xs k es=d:=by first | (simpa [hil] using a1) | exact a1
      subst hd;have hx:x=v:=by rw [hvi] at a2;simpa using a2.symm
      subst hx;exact⟨t4.1,.xs _ _ _ _ t4.2,hone⟩
    obtain⟨r1,r2,r3⟩:=m5 j d x a1 a2;exact⟨r1,r2.keep (fun _ _ _ h=>h) (fun _ _ h=>h) (other _ (by simp;exact enN)),r3⟩
  have h2':st.obj[n]?=some cs':=by
    rw [cL,aD (fun e=>enN e.symm),cL,aD (fun e=>enm e.symm)] at h2;exact h2
  exact(h.obj n b' cs' h1 h2').keep (fun _ _ _ h=>h) (fun _ _ h=>h) (other _ (by simp;exact enN))
theorem Ok.toXO (h : Ok w g st val) (m i k : Nat) (cs : List D) (hm : st.obj[m]? = some cs) (hi : cs[i]? = some (.sl true [])) :
    Ok w g { st with obj:=st.obj.set m (cs.set i (.xs k [])) } val:=by
  have hml:=(aP.1 hm).1;refine⟨h.mem,h.xlt,h.slot,h.ll,h.loc,by simp [h.ol],fun n b cs' h1 h2=>?_⟩;rw [cL] at h2;split at h2
  . rename_i e
    subst e;simp only [bF] at h2;subst h2;have hne:cs≠ []:=by rintro rfl;simp at hi
    obtain⟨cur,E,m1,m2,m3,m4,m5⟩:=(h.obj m b cs h1 hm).resolve_left hne;refine .inr ⟨cur,E,m1,by simpa using m2,m3,m4,fun j d x a1 a2=>?_⟩;rw [cL] at a1;split at a1
    . rename_i e
      subst e;have hil:=(aP.1 hi).1;have hd:D.xs k []=d:=by first | (simpa [hil] using a1) | exact a1
      subst hd;obtain⟨r1,r2,r3⟩:=m5 i _ x hi a2;obtain⟨a,rfl⟩:∃a,x= .slice a 0 0:=by
        have hO:aB6 w g.M g.X (.obj m, [i]) [] x:=by
          cases r2 with
          | sl p es v ho=>exact ho
          | flat p d v hf=>simp [D.flat] at hf
        rcases hO with ⟨a,n,rfl⟩ | ⟨b,n,cap,k',cur,E,_,hc,_⟩
        . cases r1 with
          | nil=>exact⟨_,rfl⟩
          | emp o a' cap hm'=>exact⟨_,rfl⟩
          | sl o' es' b off n' cap k vs hl hn hk hc => have hn0 : n = 0 := by simpa using hn
                                                       subst hn0;exact⟨_,rfl⟩
        exact absurd rfl hc
      exact⟨.xs k [] a 0 0 rfl (aW _) (iM _) (fun _=>⟨rfl,rfl⟩),.xs _ _ _ _ (.inl ⟨rfl,a,rfl⟩),r3⟩
    exact m5 j d x a1 a2
  exact h.obj n b cs' h1 h2
def leC:List D->List D->Prop
  | [], []=>True
  | a::r,b::q=>(b=a\/b=a.s1)/\leC r q
  | _,_=>False
theorem aNi:∀ {cs cs':List D},leC cs cs'->cs'.length=cs.length/\∀(i:Nat) (d':D),cs'[i]?=some d'->∃d,cs[i]?=some d/\(d'=d\/d'=d.s1)
  | [], [],_=>⟨rfl,fun i d' h=>by simp at h⟩
  | [],_::_,h=>h.elim
  | _::_, [],h=>h.elim
  | a :: r, b :: q, h => by
    obtain⟨h1,h2⟩:=h;obtain⟨l1,l2⟩:=aNi h2;refine⟨by simp [l1],fun i d' h=>?_⟩
    match i with
    | 0=>simp at h;subst h;exact⟨a,rfl,h1⟩
    | i+1=>exact l2 i d' (by simpa using h)
theorem Ok.weakO (h:Ok w g st val)(m:Nat)(cs cs':List D)(hm:st.obj[m]?=some cs)(hw:leC cs cs'):Ok w g { st with obj:=st.obj.set m cs' } val:=by
  obtain⟨hl,hc⟩:=aNi hw;refine⟨h.mem,h.xlt,h.slot,h.ll,h.loc,by simp [h.ol],fun n b cs2 h1 h2=>?_⟩;rw [cL] at h2;split at h2
  . rename_i e
    subst e;split at h2
    . simp only [bF] at h2
      subst h2;rcases h.obj m b cs h1 hm with h0 | ⟨cur,E,m1,m2,m3,m4,m5⟩
      . left;subst h0;exact nO hl
      refine .inr ⟨cur,E,m1,by rw [hl];exact m2,m3,m4,fun j d x a1 a2=>?_⟩;obtain⟨d0,b1,b2⟩:=hc j d a1;obtain⟨r1,r2,r3⟩:=m5 j d0 x b1 a2;rcases b2 with rfl | rfl
      . exact⟨r1,r2,r3⟩
      exact⟨r1.s1,Rd r1 r3,r3⟩
    cases h2
  exact h.obj n b cs2 h1 h2
theorem Wm (m i k:Nat) (hm:obj[m]?=some cs)(hi:cs[i]?=some (.sl true []))
    (h:fD rr dfr P c Q (St.mk' n l loc (obj.set m (cs.set i (.xs k []))))):fD rr dfr P c Q (St.mk' n l loc obj):=by
  intro w0 g0 w g tmps hf hok hn;exact h w0 g0 w g tmps hf (hok.toXO m i k cs hm hi) hn
theorem Nt (m:Nat)(cs':List D) (hm:obj[m]?=some cs)(hw:leC cs cs')
    (h:fD rr dfr P c Q (St.mk' n l loc (obj.set m cs'))):fD rr dfr P c Q (St.mk' n l loc obj):=by
  intro w0 g0 w g tmps hf hok hn;exact h w0 g0 w g tmps hf (hok.weakO m cs cs' hm hw) hn
theorem Ch (ts k:Nat) (hs:eK l ts= .d (.sl true []))
    (h:fD rr dfr P c Q (St.mk' n ((ts,.d (.xs k []))::l) loc obj)):fD rr dfr P c Q (St.mk' n l loc obj):=by
  intro w0 g0 w g tmps hf hok hn;have hsl:=hok.slot ts;have hs':(St.mk' n l loc obj).env ts= .d (.sl true []):=hs;rw [hs'] at hsl;obtain⟨hO,_,a,m,cap,hv,hm,ha⟩:=Kb (k:=k) (es:= []) (.inr (.inl ⟨rfl,rfl⟩)) hsl;have hR:R g.M g.bs (.xs k []) (cJ tmps ts):=by
    rcases hO with ⟨_,a',e1⟩ | ⟨b,n',cap',cur,E,e1,o1,o2,o3,o4,o5,o6,o7,_⟩
    . rw [e1];exact .xs k [] a' 0 0 rfl (aW _) (iM _) (fun _=>⟨rfl,rfl⟩)
    rw [e1];exact .xs k [] _ _ _ o5 o6 o7 (by simp)
  have hok2:=hok.set ts (.d (.xs k [])) (cJ tmps ts) ⟨hR,.xs _ _ _ _ hO⟩;have efun:(fun u=>if u=ts then cJ tmps ts else cJ tmps u)=cJ tmps:=by
    funext u;by_cases hu:u=ts <;> simp [hu]
  rw [efun] at hok2;exact h w0 g0 w g tmps hf hok2 hn
theorem Zt (m i k:Nat) (hm:obj[m]?=some cs)(hi:cs[i]?=some (.xs k es))(hk0:0<k)
    (h:∀(cap:Nat) (rest:List D),es.length<=cap->cap<=maxLen->rest.length=(cap - es.length) * k->(∀d∈es,d.ncells=k/\d.arr=true)->fD rr dfr P c Q (St.mk' n l loc (obj.set m (cs.set i (.slo obj.length 0 es.length cap))++ [es.flatMap D.cells++rest]))):fD rr dfr P c Q (St.mk' n l loc obj):=by
  intro w0 g0 w g tmps hf hok hn;obtain⟨cap,rest,g',a1,a2,a3,a4,_,hfr,hok'⟩:=hok.openXO m i k es cs hm hi hk0;exact h cap rest a1 a2 a3 a4 w0 g0 w g' tmps (hf.trans hfr) hok' hn
theorem Xr (m i k N len cap:Nat)(es cs ds:List D) (hm:obj[m]?=some cs)(hi:cs[i]?=some (.slo N 0 len cap))(hN:obj[N]?=some ds)(hmN:m≠N)(hk:0<k)(hcs:ds.length=cap * k)(hl:es.length=len)
    (hes:∀d∈es,d.ncells=k/\d.arr=true) (he:es.flatMap D.cells<+:ds) (h:fD rr dfr P c Q (St.mk' n l loc ((obj.set m (cs.set i (.xs k es))).set N []))):fD rr dfr P c Q (St.mk' n l loc obj):=by
  intro w0 g0 w g tmps hf hok hn;obtain⟨g',_,hfr,hok'⟩:=hok.closeXO m i k N len cap es cs ds hm hi hN hmN hk hcs hl hes he;exact h w0 g0 w g' tmps (hf.trans hfr) hok' hn
theorem Ct.closeXO {Q:D->List (List D)->Prop} (h:Ct P f args σ Q)
    (hq:∀r σ',Q r σ'->∃(m i k N len cap:Nat) (es cs ds:List D),(σ'[m]?=some cs/\cs[i]?=some (.slo N 0 len cap)/\σ'[N]?=some ds/\m≠N/\0<k/\ds.length=cap * k/\es.length=len/\(∀d∈es,d.ncells=k/\d.arr=true)/\es.flatMap D.cells<+:ds)/\Q' r ((σ'.set m (cs.set i (.xs k es))).set N [])):Ct P f args σ Q':=by
  refine⟨h.1,fun w g vs hs hb ho=>(h.2 w g vs hs hb ho).mono ?_⟩;rintro e w' ⟨r,σ',x,g',rfl,hQ,hb',hf,hk⟩;obtain⟨m,i,k,N,len,cap,es,cs,ds,⟨a1,a2,a3,a4,a5,a6,a7,a8,a9⟩,hQ'⟩:=hq r σ' hQ;obtain⟨g2,b1,b2,b3⟩:=hk.closeXO m i k N len cap es cs ds a1 a2 a3 a4 a5 a6 a7 a8 a9;exact⟨r,_,x,g2,rfl,hQ',b1.trans hb',hf.trans b2,b3⟩
theorem Ok.mapToCell (h:Ok w g st val)(t m i N:Nat)(kd:TypeDesc)(clock:Nat)(kvs:List (Value×Nat×D))(cs:List D)(hs:st.env t= .d (.mp N kd clock kvs))(hm:st.obj[m]?=some cs)(hi:cs[i]?=some (.mref N)):
    ∃g':Gh,g'.bl=g.bl/\Fr w g w g'/\Ok w g' { st.set t (.d (.mref N))with obj:=st.obj.set m (cs.set i (.mp N kd clock kvs)) } val:=by
  have hsl:=h.slot t;rw [hs] at hsl;obtain⟨hr,ho⟩:=hsl;generalize hv:val t=v at hr ho;cases ho with
  | flat _ _ _ hf=>simp [D.flat] at hf
  | mp _ _ _ _ _ _ ho=>
  obtain⟨b,es,rfl,e1,e2,e3,e4,e5,e6,e7⟩:=ho;have hml:=(aP.1 hm).1;obtain⟨bm,hbm⟩:∃bm,g.bs[m]?=some bm:=⟨_,aS (by rw [h.ol];exact hml)⟩;have hne:cs≠ []:=by rintro rfl;simp at hi
  obtain⟨cur,E,o1,o2,o3,o4,o5⟩:=(h.obj m bm cs hbm hm).resolve_left hne;have hil:=(aP.1 hi).1;obtain⟨x,hx⟩:∃x,cur[i]?=some x:=⟨_,bR (by rw [o2];exact hil)⟩;have hxv:x= .map (some b):=by
    obtain⟨r1,_,_⟩:=o5 i _ x hi hx;cases r1 with
    | mref _ b' hb'=>rw [e1] at hb';simp at hb';rw [hb']
  have hbb:bm≠b:=by rintro rfl;rw [o1] at e3;cases e3
  have other:∀(hd:Holder) (b':Nat) (q:List Nat),(hd,q)≠(Holder.slot t, [])->g.X b'=some (hd,q)->w.heap[b']?=w.heap[b']?/\(∀o,g.M b' o=none->g.M b' o=none)/\gM b (.obj m, [i]) g.X b'=some (hd,q):=fun hd b' q hn hx=>by
    refine⟨rfl,fun _ h=>h,?_⟩;have:b'≠b:=by rintro rfl;rw [e2] at hx;simp only [bF] at hx;exact hn hx.symm
    simp only [gM,aD this];exact hx
  refine⟨{ g with X:=gM b (.obj m, [i]) g.X },rfl,⟨rfl,rfl,rfl,aW _,fun b' hb' hx=>⟨rfl,?_,fun _=>rfl⟩,fun _ _ _ h=>h,fun _ _ h=>h⟩,?_⟩
  . have : b' ≠ b := by rintro rfl; rw [e2] at hx; cases hx
    show gM b (.obj m, [i]) g.X b'=none
    simp only [gM,aD this];exact hx
  refine⟨h.mem,fun b' t' hx=>?_,fun u=>?_,h.ll,fun n b' cs h1 h2=>(h.loc n b' cs h1 h2).keep (fun _ _ _ h=>h) (fun _ _ h=>h) (fun b' q=>other _ b' q (by simp)),by simp [h.ol],fun n b' cs' h1 h2=>?_⟩
  . by_cases e : b' = b
    . subst e;exact h.xlt _ _ e2
    simp only [gM,aD e] at hx;exact h.xlt b' t' hx
  . simp only [St.set]
    by_cases hu:u=t
    . subst hu
      simp only [aU];rw [hv];exact⟨.mref _ b e1,.flat _ _ _ rfl⟩
    simp only [hu,bK];exact(h.slot u).keep (fun _ _ _ h=>h) (fun _ _ h=>h) (fun _ _ h=>h) (fun b' q=>other _ b' q (by simp [hu]))
  have h2':(st.obj.set m (cs.set i (.mp N kd clock kvs)))[n]?=some cs':=h2;rw [cL] at h2';by_cases e:m=n
  . subst e
    simp only [aU,hml] at h2';have eds:cs.set i (.mp N kd clock kvs)=cs':=by simpa using h2'
    subst eds;have ebm:b'=bm:=by rw [hbm] at h1;simpa using h1.symm
    subst ebm;refine .inr ⟨cur,E,o1,by simpa using o2,(other _ _ _ (by simp) o3).2.2,o4,fun j d y c1 c2=>?_⟩;rw [cL] at c1;by_cases ej:i=j
    . subst ej
      simp only [aU,hil] at c1;have ed:D.mp N kd clock kvs=d:=by simpa using c1
      subst ed;have ey:y=x:=by rw [hx] at c2;simpa using c2.symm
      subst ey;subst hxv;exact⟨.mp _ _ _ b _ e1,.mp _ _ _ _ _ _ ⟨b,es,rfl,e1,by simp [gM],e3,e4,e5,e6,e7⟩,rfl⟩
    rw [aD ej] at c1;obtain⟨r1,r2,r3⟩:=o5 j d y c1 c2;exact⟨r1,r2.move (fun _ _ _ h=>h) (fun _ _ h=>h) [j] fun b'' q hq=>other _ b'' _ (by simp) hq,r3⟩
  rw [aD e] at h2';exact(h.obj n b' cs' h1 h2').keep (fun _ _ _ h=>h) (fun _ _ h=>h) (fun b' q=>other _ b' q (by simp))
theorem Ni (t m i:Nat) (ht:eK l t= .d (.mp N kd clock kvs))(hm:obj[m]?=some cs)(hi:cs[i]?=some (.mref N))
    (h:fD rr dfr P c Q (St.mk' n ((t,.d (.mref N))::l) loc (obj.set m (cs.set i (.mp N kd clock kvs))))):fD rr dfr P c Q (St.mk' n l loc obj):=by
  intro w0 g0 w g tmps hf hok hn;obtain⟨g',_,hfr,hok'⟩:=hok.mapToCell t m i N kd clock kvs cs ht hm hi;exact h w0 g0 w g' tmps (hf.trans hfr) hok' hn
variable {K:St->Prop}{Q:Exit->St->Prop}{after:Array Edge}{all ops ops' r r2:List Oper}{args args':List D}{c:Cfg}{d:Option Tmp}{i m n t:Nat}{ks:List DK}{l:List (Nat×Slot)}{loc obj σ:List (List D)}{pos:String}{s st:St}{x:Bool}{y:Code}{α:Type}
theorem bL (l:List α)(k:Nat)(h:k<l.length):l.take (k+1)=l.take k++ [l[k]]:=by
  rw [List.take_add_one,aS h];rfl
theorem pK {p:List α->Prop} (h0:p [])(h1:∀l x,p l->p (l++ [x]))(l:List α):p l:=by
  have:∀(r:List α),p r.reverse:=by
    intro r;induction r with
    | nil=>exact h0
    | cons a r ih=>rw [Ho];exact h1 _ _ ih
  have:=this l.reverse
  rwa [List.reverse_reverse] at this
def wR {α:Type} (p:α->Bool)(l:List α):Int:=match l.findIdx? p with | some k=>k | none=> -1
theorem Iv {p:α->Bool} {l:List α} {k:Nat} (h:k<l.length)(hh:∀x∈l.take k,p x=false)(e:p l[k]=true):wR p l=k:=by
  have:l.findIdx? p=some k:=by
    rw [qB];refine⟨h,e,fun j hj=>?_⟩;have:=hh ((l.take k)[j]'(by simp;omega)) (bS _);simpa using this
  simp [wR,this]
theorem yF {p:α->Bool} {l:List α} (h:∀x∈l,p x=false):wR p l= -1:=by
  have:l.findIdx? p=none:=by
    rw [qJ];simpa using h
  simp [wR,this]
theorem Bg (p:α->Bool)(l:List α):(wR p l= -1/\l.filter (fun x=> !p x)=l)\/∃k:Nat,wR p l=k/\k<l.length/\∀x∈l.take k,p x=false:=by
  unfold wR;split
  . rename_i k h
    rw [qB] at h;obtain⟨hk,he,hn⟩:=h;refine .inr ⟨k,rfl,hk,fun x hx=>?_⟩;obtain⟨j,hj,rfl⟩:=iN hx;have:=hn j (by simp at hj;omega);simpa using this
  rename_i h;rw [qJ] at h;refine .inl ⟨rfl,?_⟩;rw [nK];intro x hx;simp [h x hx]
theorem uU {p:α->Bool} {l:List α} {k:Nat} (h:k<l.length)(hh:∀x∈l.take k,p x=false)(e:p l[k]=false):∀x∈l.take (k+1),p x=false:=by
  rw [bL l k h];intro x hx;rcases bT.1 hx with h1 | h1
  . exact hh x h1
  simp at h1;subst h1;exact e
theorem aMy (f:α->D)(l:List α)(rest:List D)(i:Nat)(x:α)(h:i<l.length):List.take i (l.map f++rest)++f x::List.drop (i+1) (l.map f++rest)=(l.set i x).map f++rest:=by
  rw [<- iU f l rest i x h];simp
theorem aLd (f:α->D)(l:List α)(rest:List D)(n:Nat)(h:n=l.length):List.drop n (l.map f++rest)=rest:=by
  subst h;rw [List.drop_append_of_le_length (by simp),vF (by simp)];rfl
theorem uH {f:α->D} (h:∀a,(f a).cells= [f a])(l:List α):(l.map f).flatMap D.cells=l.map f:=by
  induction l with
  | nil=>rfl
  | cons a l ih=>simp only [cC,gG,h a,ih];rfl
def kp {α:Type} (p:α->Bool)(l:List α)(j:Nat):List α:=(l.take j).filter fun x=> !p x
def ar {α:Type} (p:α->Bool)(l:List α)(j:Nat):List α:=kp p l j++l.drop (kp p l j).length
theorem Wu (p:α->Bool)(l:List α)(j:Nat)(h:j<=l.length):(kp p l j).length<=j:=by
  unfold kp;have:=jD (fun x=> !p x) (l.take j);rw [bG] at this;omega
theorem aW1 (p:α->Bool)(l:List α)(j:Nat):(kp p l j).length<=l.length:=by
  unfold kp;have:=jD (fun x=> !p x) (l.take j);rw [bG] at this;omega
theorem aCt (p:α->Bool)(l:List α)(j:Nat)(h:j<l.length):kp p l (j+1)=kp p l j++if p l[j]=true then [] else [l[j]]:=by
  unfold kp;rw [bL l j h,fX,gQ];by_cases e:p l[j]=true <;> simp [e]
theorem Te (p:α->Bool)(l:List α)(j:Nat):(ar p l j).length=l.length:=by
  unfold ar;have:=aW1 p l j;rw [aZ,dI];omega
theorem aL5 (p:α->Bool)(l:List α)(j:Nat)(h:j<l.length):(ar p l j)[j]'(by rw [Te];exact h)=l[j]:=by
  have hk:=Wu p l j (by omega);unfold ar;rw [uZ (by omega),List.getElem_drop];congr 1;omega
theorem Bo (p:α->Bool)(l:List α)(j:Nat)(h:j<l.length)(e:p l[j]=true):ar p l (j+1)=ar p l j/\kp p l (j+1)=kp p l j:=by
  have:=aCt p l j h;rw [aK e,gH] at this;exact⟨by unfold ar;rw [this],this⟩
theorem Hv (p:α->Bool)(l:List α)(j:Nat)(h:j<l.length)(e:p l[j]=false):(ar p l j).set (kp p l j).length l[j]=ar p l (j+1)/\(kp p l (j+1)).length=(kp p l j).length+1:=by
  have hs:=aCt p l j h;have hk:=Wu p l j (by omega);rw [aD (by simp [e])] at hs;refine⟨?_,by rw [hs];simp⟩;unfold ar;rw [hs,aZ,uW,nS _ _ (aW _),mB,bW];congr 1;rw [yB (by omega)];rfl
theorem aNu (p:α->Bool)(l:List α)(k:Nat)(h:k<l.length)(hh:∀x∈l.take k,p x=false)(e:p l[k]=true):ar p l (k+1)=l/\(kp p l (k+1)).length=k:=by
  have h1:kp p l k=l.take k:=by
    unfold kp;rw [nK];intro x hx;simp [hh x hx]
  have h2:=(Bo p l k h e).2;unfold ar;rw [h2,h1,bG,kQ (by omega)];exact⟨eZ k l,rfl⟩
theorem Ka {p:α->Bool} {l:List α} (h:¬wR p l= -1):∃k:Nat,wR p l=k/\ar p l (k+1)=l/\(kp p l (k+1)).length=k/\k<l.length:=by
  unfold wR at *;split at h
  . rename_i k hf
    rw [qB] at hf;obtain⟨hk,he,hn⟩:=hf;have hh:∀x∈l.take k,p x=false:=fun x hx=>by
      obtain⟨j,hj,rfl⟩:=iN hx;have:=hn j (by simp at hj;omega);simpa using this
    obtain⟨a,b⟩:=aNu p l k hk hh he;exact⟨k,rfl,a,b,hk⟩
  exact absurd rfl h
theorem pY {l:List α} {x:α} (h:l[m]?=some x):m<l.length:=(aP.1 h).1
theorem aM {l:List α} {x:α} (h:l[m]?=some x)(a:α):(l.set m a)[m]?=some a:=by
  rw [cL,aK rfl,aK (pY h)]
theorem iF {l:List α} {x:α} (h:l[m]?=some x)(a:α)(r:List α):(l.set m a++r)[m]?=some a:=by
  rw [bC (by rw [cK];exact pY h),aM h]
theorem fA {l:List α} {x:α} (h:l[m]?=some x)(r:List α):(l++r)[m]?=some x:=by
  rw [bC (pY h)];exact h
theorem iO {l:List α} {x:α} (h:l[m]?=some x)(a b:α)(r:List α):(l.set m a++r).set m b=l.set m b++r:=by
  rw [List.set_append_left _ _ (by rw [cK];exact pY h),aL]
theorem gB {l:List α} {x:α} (h:l[m]?=some x)(b:α)(r:List α):(l++r).set m b=l.set m b++r:=by
  rw [List.set_append_left _ _ (pY h)]
theorem fM (l:List α)(m:Nat)(a b:α)(r:List α):(l.set m a++b::r)[l.length]?=some b:=by
  rw [bX (by rw [cK];omega),cK,mB];rfl
theorem dF (l:List α)(m:Nat)(a b c:α)(r:List α):(l.set m a++b::r).set l.length c=l.set m a++c::r:=by
  rw [nS _ _ (by rw [cK];omega),cK,mB];rfl
theorem eP (l:List α)(b:α)(r:List α):(l++b::r)[l.length]?=some b:=by
  rw [bX (by omega),mB];rfl
theorem cU (l:List α)(b c:α)(r:List α):(l++b::r).set l.length c=l++c::r:=by
  rw [nS _ _ (by omega),mB];rfl
theorem fG (l:List α)(m:Nat)(a b b':α)(r:List α):(l.set m a++b::b'::r)[l.length+1]?=some b':=by
  rw [bX (by rw [cK];omega),cK,nN];rfl
theorem dE (l:List α)(m:Nat)(a b b' c:α)(r:List α):(l.set m a++b::b'::r).set (l.length+1) c=l.set m a++b::c::r:=by
  rw [nS _ _ (by rw [cK];omega),cK,nN];rfl
theorem bI (l r:List α)(k:Nat):(l++r)[l.length+k]?=r[k]?:=by
  rw [bX (by omega),nN]
theorem aX (l r:List α)(k:Nat)(c:α):(l++r).set (l.length+k) c=l++r.set k c:=by
  rw [nS _ _ (by omega),nN]
theorem aI (l r:List α):(l++r)[l.length]?=r[0]?:=bI l r 0
theorem aG (l r:List α)(c:α):(l++r).set l.length c=l++r.set 0 c:=aX l r 0 c
theorem fE (l:List α)(m:Nat)(a b b' b2:α)(r:List α):(l.set m a++b::b'::b2::r)[l.length+2]?=some b2:=by
  rw [bX (by rw [cK];omega),cK,nN];rfl
theorem dD (l:List α)(m:Nat)(a b b' b2 c:α)(r:List α):(l.set m a++b::b'::b2::r).set (l.length+2) c=l.set m a++b::b'::c::r:=by
  rw [nS _ _ (by rw [cK];omega),cK,nN];rfl
section
variable {f:α->List D}{k:Nat}
theorem dJ(hf:∀a,(f a).length=k)(l:List α):(l.flatMap f).length=l.length * k:=by
  induction l with
  | nil=>simp
  | cons a l ih=>simp only [gG,aZ,ih,hf,bJ,dB,Ac];omega
theorem sY(l:List α)(i:Nat)(h:i<l.length):l.flatMap f=(l.take i).flatMap f++(f l[i]++(l.drop (i+1)).flatMap f):=by
  have:l=l.take i++(l[i]::l.drop (i+1)):=by rw [<- yB h,eZ]
  conv=>lhs;rw [this]
  rw [gR,gG]
theorem pN(hf:∀a,(f a).length=k)(l:List α)(i:Nat)(h:i<l.length):((l.take i).flatMap f).length=i * k:=by
  rw [dJ hf,bG,kQ (by omega)]
theorem Pr(hf:∀a,(f a).length=k)(l:List α)(rest:List D)(i:Nat)(h:i<l.length):((l.flatMap f++rest).drop (i * k)).take k=f l[i]:=by
  rw [sY l i h,bW,<- pN hf l i h,yS,bW,<- hf l[i],zO]
theorem Ol(hf:∀a,(f a).length=k)(l:List α)(rest:List D)(i j:Nat)(h:i<l.length)(hj:j<k):(l.flatMap f++rest)[i * k+j]?=(f l[i])[j]?:=by
  rw [sY l i h,bW,<- pN hf l i h,bX (by omega),nN,bW,bC (by rw [hf];exact hj)]
theorem aB8(hf:∀a,(f a).length=k)(l:List α)(rest:List D)(i:Nat)(h:i<l.length):Ae true k ((l.flatMap f++rest).drop (i * k))=some (.agg (f l[i])):=by
  have hle:k<=((l.flatMap f++rest).drop (i * k)).length:=by
    have:=congrArg List.length (Pr hf l rest i h);rw [bG,hf] at this;omega
  simp only [Ae,aU,hle,Pr hf l rest i h]
theorem Us(hf:∀a,(f a).length=k)(l:List α)(rest:List D)(i j:Nat)(h:i<l.length)(hj:j<k):Ae false 1 ((l.flatMap f++rest).drop (i * k+j))=(f l[i])[j]?:=by
  rw [<- Ol hf l rest i j h hj];simp only [Ae,gO,bK,qD]
theorem oN(A B C X:List D)(h:X.length=B.length):dZ (A++(B++C)) A.length X=A++(X++C):=by
  unfold dZ;rw [zO,h,<- bW A B C,<- aZ,yS,bW]
theorem Hu(hf:∀a,(f a).length=k)(l:List α)(rest:List D)(i:Nat)(x:α)(h:i<l.length):dZ (l.flatMap f++rest) (i * k) (f x)=(l.set i x).flatMap f++rest:=by
  have e1:(l.set i x).flatMap f=(l.take i).flatMap f++(f x++(l.drop (i+1)).flatMap f):=by
    rw [Oq,aK h,gR,gG]
  rw [e1,sY l i h,<- pN hf l i h,bW,bW,oN _ _ _ _ (by rw [hf,hf]),bW,bW]
theorem cX {d:α->D} (hd:∀a,(d a).cells=f a)(l:List α):(l.map d).flatMap D.cells=l.flatMap f:=by
  induction l with
  | nil=>rfl
  | cons a l ih=>simp only [cC,gG,hd a,ih]
end
variable {rr:Option Nat} {dfr:List Deferred}
section
variable {P:Program}
theorem zs (n:Nat) (h:∀K':St->Prop,(∀s,qK P c all r2 s K->K' s)->qK P c all (r.take n) st K')(hd:r.drop n=r2:=by simp only [List.drop] <;> rfl):qK P c all r st K:=aG9 n (by rw [hd];exact h)
theorem kF (n:Nat) {k2:List DK} (h:∀K':St->Prop,(∀s,kA P c all r2 k2 s K->K' s)->kA P c all (r.take n) (ks.take n) st K')(hks:n<=ks.length:=by simp)(hd:r.drop n=r2:=by simp only [List.drop] <;> rfl)(hd2:ks.drop n=k2:=by simp only [List.drop] <;> rfl):kA P c all r ks st K:=Zo n hks (by rw [hd,hd2];exact h)
theorem zq {S:α->St} {p:α->Prop} {m:α->Nat} {x:α} (y:α)(hp:p y)(hm:m y<m x)(hl:Ao loc.length s.env l)(hS:S y=St.mk' n l loc obj:=by exact rfl)(hn:s.n=n:=by exact rfl)(hloc:loc<+:s.loc:=by simp)(hobj:s.obj=obj:=by simp):Dl S p m x Q .normal s:=
  fB y hp hm (by rw [hS];exact dW hn hl hloc hobj)
theorem zf {f:FuncId} {fn:Func} {cd:Code} {Q:D->List (List D)->Prop} {rs:List ResultVar} (hf:P.funcs[f]?=some fn)(h:AWP P cd (aH P rs Q) (St.mk' n l [] σ))
    (hn : fn.ntmps = n := by exact rfl) (hrs : fn.results = rs.toArray := by exact rfl) (hb : fn.body = some cd := by exact rfl) (hl : tG 0 args = l := by simp only [tG] <;> rfl) (hname : (fn.name != "runtime.NumGoroutine") = true := by exact rfl) (hle : args.length ≤ n := by simp) : Ct P f args σ Q := aH5 hf hb hname hn hrs hle (by rw [hl]; exact h)
theorem zr(c:Cfg) {id:Nat} (h:∀(all:List Oper) (K:St->Prop),(∀s,fD rr dfr P y Q s->K s)->qK P c all ops' st K)(he:ops.map sU=ops':=by simp only [oY,rB] <;> rfl):fD rr dfr P (.seq (.region id ops.toArray false) y) Q st:=
  aE (tW he fun all _ K hK=>h all K fun s hs=>hK s (fW hs))
theorem mH(c:Cfg) {id:Nat} (h:∀(all:List Oper),(∀j,aN all j=aN ops j)->∀(K:St->Prop),(∀s,fD rr dfr P y Q s->K s)->qK P c all ops' st K)(he:ops.map sU=ops':=by simp only [oY,rB] <;> rfl):fD rr dfr P (.seq (.region id ops.toArray false) y) Q st:=
  aE (tW he fun all ha K hK=>h all ha K fun s hs=>hK s (fW hs))
theorem zt(c:Cfg) {id:Nat} (h:∀(all:List Oper) (K:St->Prop),(∀s,Q .normal s->K s)->qK P c all ops' st K)(he:ops.map sU=ops':=by simp only [oY,rB] <;> rfl):fD rr dfr P (.region id ops.toArray false) Q st:=
  tW he fun all _ K hK=>h all K hK
theorem ztg(c:Cfg) {id:Nat} (h:∀(all:List Oper),(∀j,aN all j=aN ops j)->∀(K:St->Prop),(∀s,Q .normal s->K s)->qK P c all ops' st K)(he:ops.map sU=ops':=by simp only [oY,rB] <;> rfl):fD rr dfr P (.region id ops.toArray false) Q st:=
  tW he fun all ha K hK=>h all ha K hK
theorem bB {id:Nat} (h:∀(all:List Oper) (K:St->Prop),(∀s,fD rr dfr P y Q s->K s)->qK P ⟨[], [], [], [], []⟩ all ops' st K)(he:ops.map sU=ops':=by simp only [oY,rB] <;> rfl):fD rr dfr P (.seq (.region id ops.toArray false) y) Q st:=zr _ h he
theorem pF {id:Nat} (h:∀(all:List Oper) (K:St->Prop),(∀s,Q .normal s->K s)->qK P ⟨[], [], [], [], []⟩ all ops' st K)(he:ops.map sU=ops':=by simp only [oY,rB] <;> rfl):fD rr dfr P (.region id ops.toArray false) Q st:=zt _ h he
theorem zd(c:Cfg)(ks:List DK) {id:Nat} (h:∀(all:List Oper),(∀j,aN all j=aN ops j)->∀(K:St->Prop),(∀s,fD rr dfr P y Q s->K s)->kA P c all ops' ks st K)
    (he:ops.map sU=ops':=by simp only [oY,rB] <;> rfl) (hm:P.follows .mixedOrders=true:=by kernel_rfl) (hok:Kf c ops ks=true:=by kernel_rfl):fD rr dfr P (.seq (.region id ops.toArray true) y) Q st:=
  aE (Oy ks hm hok he fun all ha K hK=>h all ha K fun s hs=>hK s (fW hs))
theorem ze(c:Cfg)(ks:List DK) {id:Nat} (h:∀(all:List Oper),(∀j,aN all j=aN ops j)->∀(K:St->Prop),(∀s,Q .normal s->K s)->kA P c all ops' ks st K)
    (he:ops.map sU=ops':=by simp only [oY,rB] <;> rfl) (hm:P.follows .mixedOrders=true:=by kernel_rfl) (hok:Kf c ops ks=true:=by kernel_rfl):fD rr dfr P (.region id ops.toArray true) Q st:=
  Oy ks hm hok he fun all ha K hK=>h all ha K hK
theorem zk(K:List Nat) {l2:List (Nat×Slot)} {c:Code} (h:fD rr dfr P c Q (St.mk' n l2 loc obj))(hl:Cr K l=l2:=by simp only [aGf,Lg,Nu,Ov,aSb,aSx,Nat.reduceBEq] <;> rfl):fD rr dfr P c Q (St.mk' n l loc obj):=aJv K hl h
theorem zg {op:Op} {ty:TypeId} {j:Nat} {b want:Bool} (hg:aN all j=some t)(h1:∀K':St->Prop,(∀s,qK P c all r s K->K' s)->Ws d st/\jE P c d op st K')
    (hs:st.env t= .d (.v (.bool b)):=by simp <;> rfl) (hb:b=want:=by exact rfl):qK P c all (⟨d,op,ty,pos,after,some (j,want)⟩::r) st K:=aUu hg hs hb h1
theorem zdg {op:Op} {ty:TypeId} {j:Nat} {b want:Bool} {k:DK} (hg:aN all j=some t)(h1:∀K':St->Prop,(∀s,kA P c all r ks s K->K' s)->Ws d st/\Ah P c d op k st K')
    (hs:st.env t= .d (.v (.bool b)):=by simp <;> rfl) (hb:b=want:=by exact rfl):kA P c all (⟨d,op,ty,pos,after,some (j,want)⟩::r) (k::ks) st K:=aRx hg hs hb h1
theorem zi {a b:Code} {s:Slot} (h:Bu s.toD (fD rr dfr P a Q (St.mk' n ((t,.d (.bool true))::l) loc obj)) (fD rr dfr P b Q (St.mk' n ((t,.d (.bool false))::l) loc obj)))(hs:eK l t=s:=by simp <;> rfl):fD rr dfr P (.cond (.tmp t) a b) Q (St.mk' n l loc obj):=aCz hs h
theorem cT {f:FuncId} {y:List (List D)} {x:D} {Q:D->List (List D)->Prop} (h:Ct P f args σ (fun r τ=>r=x/\τ=y))(k:Q x y)(hl:oM args' args:=by first | exact iP rfl | (refine iP ?_;simp;done) | (refine iP ?_;simp;rfl) | (simp [oM,Ks];done)):Ct P f args' σ Q:=
  (h.of_le hl rfl).mono fun r τ ⟨h1,h2⟩=>by rw [h1,h2];exact k
theorem Mo {f:FuncId} {Q Q':D->List (List D)->Prop} (h:Ct P f args σ Q)(k:∀r τ,Q r τ->Q' r τ)(hl:oM args' args:=by first | exact iP rfl | (refine iP ?_;simp;done) | (refine iP ?_;simp;rfl) | (simp [oM,Ks];done)):Ct P f args' σ Q':=
  (h.of_le hl rfl).mono k
theorem wI {f:FuncId} {r:D} {k:D->Prop} (h:∀σ,Ct P f args σ (fun r' τ=>r'=r/\τ=σ))(hk:k r)(hl:oM args' args:=by first | exact iP rfl | (refine iP ?_;simp;done) | (refine iP ?_;simp;rfl) | (simp [oM,Ks];done)):∃r,(∀σ,Ct P f args' σ fun r' σ'=>r'=r/\σ'=σ)/\k r:=
  ⟨r,fun σ=>(h σ).of_le hl rfl,hk⟩
theorem zdr {f:FuncId} {r:D} {k:D->Prop} (h:Ct P f args σ (fun r' τ=>r'=r/\τ=σ))(hk:k r)(hl:oM args' args:=by first | exact iP rfl | (refine iP ?_;simp;done) | (refine iP ?_;simp;rfl) | (simp [oM,Ks];done)):∃r,(Ct P f args' σ fun r' σ'=>r'=r/\σ'=σ)/\k r:=
  ⟨r,h.of_le hl rfl,hk⟩
theorem zdd {f:FuncId} {σ0:List (List D)} {r:D} {k:D->List (List D)->Prop} (h:Ct P f args σ (fun r' τ=>r'=r/\τ=σ0))(hk:k r σ0)(hl:oM args' args:=by first | exact iP rfl | (refine iP ?_;simp;done) | (refine iP ?_;simp;rfl) | (simp [oM,Ks];done)):∃r σ0,(Ct P f args' σ fun r' σ'=>r'=r/\σ'=σ0)/\k r σ0:=
  ⟨r,σ0,h.of_le hl rfl,hk⟩
theorem zI {a b:Code} {s:Slot} (h1:x=true->fD rr dfr P a Q (St.mk' n ((t,.d (.bool true))::l) loc obj))(h2:x=false->fD rr dfr P b Q (St.mk' n ((t,.d (.bool false))::l) loc obj))
    (hs:eK l t=s:=by simp <;> rfl) (hb:s= .d (.v (.bool x)):=by exact rfl):fD rr dfr P (.cond (.tmp t) a b) Q (St.mk' n l loc obj):=aCz hs (by rw [hb];exact⟨h1,h2⟩)
theorem zb {s:Slot} (t:Nat)(h1:x=true->qK P c all r (St.mk' n ((t,.d (.bool true))::l) loc obj) K)(h2:x=false->qK P c all r (St.mk' n ((t,.d (.bool false))::l) loc obj) K)
    (hs:eK l t=s:=by simp <;> rfl) (hb:s= .d (.v (.bool x)):=by exact rfl):qK P c all r (St.mk' n l loc obj) K:=aKy t hs (by rw [hb];exact⟨h1,h2⟩)
theorem zbD {s:Slot} (t:Nat)(h1:x=true->kA P c all r ks (St.mk' n ((t,.d (.bool true))::l) loc obj) K)(h2:x=false->kA P c all r ks (St.mk' n ((t,.d (.bool false))::l) loc obj) K)
    (hs:eK l t=s:=by simp <;> rfl) (hb:s= .d (.v (.bool x)):=by exact rfl):kA P c all r ks (St.mk' n l loc obj) K:=aHe t hs (by rw [hb];exact⟨h1,h2⟩)
theorem zA (h:fD rr dfr P y Q s):fD rr dfr P .skip (uF rr dfr P y Q) s:=xN h
theorem zB (h:fD rr dfr P y Q s):rI i (uF rr dfr P y Q) .normal s:=h
theorem mS (h:fD rr dfr P y Q s):fD rr dfr P .skip (rI i (uF rr dfr P y Q)) s:=xN h
theorem Od {x:Code} (h:fD rr dfr P x (rI i (uF rr dfr P y Q)) s):fD rr dfr P (.seq (.block i x) y) Q s:=aE (aR h)
theorem jM {x:Code} (h:fD rr dfr P x (rI i (uF rr dfr P y Q)) s):fD rr dfr P .skip (uF rr dfr P (.seq (.block i x) y) Q) s:=xN (Od h)
theorem zE {S:α->St} {p:α->Prop} {m:α->Nat} {x:α} {y1:Code} (h:fD rr dfr P y Q s):fD rr dfr P (.exit i) (uF rr dfr P y1 (Dl S p m x (rI i (uF rr dfr P y Q)))) s:=Dw (Ce (Dn (yI h)))
@[simp] theorem aYo :uF rr dfr P y Q .ret s=Q .ret s:=rfl
@[simp] theorem aV4 :rI i Q .ret s=Q .ret s:=rfl
@[simp] theorem aYi {S:α->St} {p:α->Prop} {m:α->Nat} {x:α} :Dl S p m x Q .ret s=Q .ret s:=rfl
@[simp] theorem aYk {S:α->St} {p:α->Prop} :aX8 S p Q .ret s=Q .ret s:=rfl
end
end Go.Vm
