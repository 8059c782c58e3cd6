import Derived.Test.YtbgfljpnhhdkoaaGreatVm22
set_option linter.all false
namespace Go.Vm
open Go
variable {N clock k n:Nat}{P:Program}{Q:Exit->St->Prop}{Q':D->List (List D)->Prop}{args cs es:List D}{bs0:List Nat}{c:Code}{f:FuncId}{g:Gh}{kd:TypeDesc}{kvs:List (Value×Nat×D)}{l:List (Nat×Slot)}{loc obj σ:List (List D)}{st:St}{val:Nat->Value}{w:World}{α:Type}
section
def Sc(N:Nat)(d:D):Prop:=(∀M bs v,R M bs d v->R M (bs.take N) d v)/\(∀w M bs X h p v,Own w M bs X h p d v->Own w M (bs.take N) X h p d v)
theorem nQ {bs:List Nat} {b:Nat} (hn:n<N)(h:bs[n]?=some b):(bs.take N)[n]?=some b:=by
  rw [eL,aJ hn];exact h
theorem scR {M0 : Mem} {d : D} {v0 : Value} (h : R M0 bs0 d v0) (hN : bs0.length <= N) : ∀ M bs v, R M bs d v -> R M (bs.take N) d v := by
  have lt:∀(n b:Nat),bs0[n]?=some b->n<N:=fun n b hb=>rU (aN.1 hb).1 hN;induction h with
  | any x=>intro M bs v _;exact .any _
  | v x hx=>intro M bs v h;cases h with | v _ h=>exact .v _ h
  | nil o =>
    intro M bs v h;cases h with
    | nil=>exact .nil _
    | emp o a cap hm=>exact .emp _ a cap hm
    | sl o es b off n cap k vs hl hn hk hc hm hr hs hx=>exact .sl _ [] b off n cap k vs hl hn hk hc hm (fun i d x a=>by simp at a) hs hx
  | emp o a cap hm =>
    intro M bs v h;cases h with
    | nil=>exact .nil _
    | emp o a cap hm=>exact .emp _ a cap hm
    | sl o es b off n cap k vs hl hn hk hc hm hr hs hx=>exact .sl _ [] b off n cap k vs hl hn hk hc hm (fun i d x a=>by simp at a) hs hx
  | sl o es b off n cap k vs hl hn hk hc hm hr hs hx ih =>
    intro M bs v h;cases h with
    | nil=>exact .nil _
    | emp o a cap hm=>exact .emp _ a cap hm
    | sl o' es' b' off' n' cap' k' vs' hl' hn' hk' hc' hm' hr' hs' hx' =>
      refine .sl _ _ b' off' n' cap' k' vs' hl' hn' hk' hc' hm' (fun i d x a1 a2=>?_) hs' hx';have hi:i<vs.length:=by rw [hl];exact(aN.1 a1).1
      exact ih i d _ a1 (aT hi) M bs x (hr' i d x a1 a2)
  | agg cs vs hl hr h1 ih =>
    intro M bs v h;cases h with
    | agg _ vs' hl' hr' h1' =>
      refine .agg _ vs' hl' (fun i d x a1 a2=>?_) h1';have hi:i<vs.size:=by rw [hl];exact(aN.1 a1).1
      exact ih i d _ a1 (bL hi) M bs x (hr' i d x a1 a2)
  | tup cs vs hl hr ih =>
    intro M bs v h;cases h with
    | tup _ vs' hl' hr' =>
      refine .tup _ vs' hl' (fun i d x a1 a2=>?_);have hi:i<vs.size:=by rw [hl];exact(aN.1 a1).1
      exact ih i d _ a1 (bL hi) M bs x (hr' i d x a1 a2)
  | adr cs b off vs hl hr hx ih =>
    intro M bs v h;cases h with
    | adr _ b' off' vs' hl' hr' hx' =>
      refine .adr _ b' off' vs' hl' (fun i d x a1 a2=>?_) hx';have hi:i<vs.length:=by rw [hl];exact(aN.1 a1).1
      exact ih i d _ a1 (aT hi) M bs x (hr' i d x a1 a2)
  | ref n off b hb=>intro M bs v h;cases h with | ref _ _ b' hb'=>exact .ref _ _ b' (nQ (lt _ _ hb) hb')
  | clo f first caps v1 v2 l1 l2 h1 h2 ih1 ih2 =>
    intro M bs v h;cases h with
    | clo _ _ _ w1 w2 m1 m2 k1 k2 =>
      refine .clo _ _ _ w1 w2 m1 m2 (fun i d x a1 a2=>?_) (fun i d x a1 a2=>?_)
      . have hi : i < v1.size := by rw [l1]; exact (aN.1 a1).1
        exact ih1 i d _ a1 (bL hi) M bs x (k1 i d x a1 a2)
      have hi:i<v2.size:=by rw [l2];exact(aN.1 a1).1
      exact ih2 i d _ a1 (bL hi) M bs x (k2 i d x a1 a2)
  | ifc t d x h ih=>intro M bs v h;cases h with | ifc _ _ x' h'=>exact .ifc _ _ _ (ih M bs x' h')
  | xs k es a n cap hn hc hm ha=>intro M bs v h;cases h with | xs _ _ a' n' cap' hn' hc' hm' ha'=>exact .xs _ _ a' n' cap' hn' hc' hm' ha'
  | xl a n cap hc hm ha=>intro M bs v h;cases h with | xl a' _ cap' hc' hm' ha'=>exact .xl a' _ cap' hc' hm' ha'
  | slo n a len cap x hb hc hm=>intro M bs v h;cases h with | slo _ _ _ _ x' hb' hc' hm'=>exact .slo _ _ _ _ x' (fun h0=>by obtain⟨b,b1,_⟩:=hb h0;obtain⟨b',c1,c2⟩:=hb' h0;exact⟨b',nQ (lt _ _ b1) c1,c2⟩) hc' hm'
  | mref n b hb=>intro M bs v h;cases h with | mref _ b' hb'=>exact .mref _ b' (nQ (lt _ _ hb) hb')
  | mp n kd clock b kvs hb=>intro M bs v h;cases h with | mp _ _ _ b' _ hb'=>exact .mp _ _ _ b' _ (nQ (lt _ _ hb) hb')
  | mit n since seen last b=>intro M bs v h;cases h with | mit _ _ _ _ b'=>exact .mit _ _ _ _ b'
  | mo kd clock b kvs=>intro M bs v h;cases h with | mo _ _ b' _=>exact .mo _ _ b' _
  | mz b=>intro M bs v h;cases h with | mz b'=>exact .mz b'
theorem Dn (he:∀(d:D),d∈es->∀e∈d.cells,∀M bs v,R M bs e v->R M (bs.take N) e v):∀w M bs X h p v,Own w M bs X h p (.xs k es) v->Own w M (bs.take N) X h p (.xs k es) v:=by
  intro w M bs X h p v ho;cases ho with
  | xs _ _ _ _ ho =>
    refine .xs _ _ _ _ ?_;rcases ho with ho | ⟨b,n,cap,cur,E,e1,o1,o2,o3,o4,o5,o6,o7,o8,o9,o10,o11⟩
    . exact .inl ho
    refine .inr ⟨b,n,cap,cur,E,e1,o1,o2,o3,o4,o5,o6,o7,o8,o9,o10,fun i d j e a1 a2=>?_⟩;obtain⟨x,x1,x2⟩:=o11 i d j e a1 a2;exact⟨x,x1,he d (bD a1) e (bD a2) _ _ _ x2⟩
  | flat _ _ _ hf=>simp [D.flat] at hf
theorem Yu {since last:Nat} {seen:List Nat} (hn:n<N):∀w M bs X h p v,Own w M bs X h p (.mit n since seen last) v->Own w M (bs.take N) X h p (.mit n since seen last) v:=by
  intro w M bs X h p v ho;cases ho with
  | mit _ _ _ _ _ _ ho =>
    obtain⟨b,bm,e1,o1,o2⟩:=ho;exact .mit _ _ _ _ _ _ ⟨b,bm,e1,nQ hn o1,o2⟩
  | flat _ _ _ hf=>simp [D.flat] at hf
theorem Pb (hn:n<N)(he:∀(k:Value) (s:Nat) (d:D),(k,s,d)∈kvs->∀M bs v,R M bs d v->R M (bs.take N) d v):∀w M bs X h p v,Own w M bs X h p (.mp n kd clock kvs) v->Own w M (bs.take N) X h p (.mp n kd clock kvs) v:=by
  intro w M bs X h p v ho;cases ho with
  | mp _ _ _ _ _ _ ho =>
    obtain⟨b,es,e1,o1,o2,o3,o4,o5,o5b,o6⟩:=ho;refine .mp _ _ _ _ _ _ ⟨b,es,e1,nQ hn o1,o2,o3,o4,o5,o5b,fun i k s d e a1 a2=>?_⟩;obtain⟨r1,r2,r3,r4⟩:=o6 i k s d e a1 a2;exact⟨r1,r2,he k s d (bD a1) _ _ _ r3,r4⟩
  | flat _ _ _ hf=>simp [D.flat] at hf
theorem Oy (he:∀(k:Value) (s:Nat) (d:D),(k,s,d)∈kvs->∀M bs v,R M bs d v->R M (bs.take N) d v):∀w M bs X h p v,Own w M bs X h p (.mo kd clock kvs) v->Own w M (bs.take N) X h p (.mo kd clock kvs) v:=by
  intro w M bs X h p v ho;cases ho with
  | mo _ _ _ _ _ ho =>
    obtain⟨b,es,e1,o2,o3,o4,o5,o5b,o6⟩:=ho;refine .mo _ _ _ _ _ ⟨b,es,e1,o2,o3,o4,o5,o5b,fun i k s d e a1 a2=>?_⟩;obtain⟨r1,r2,r3,r4⟩:=o6 i k s d e a1 a2;exact⟨r1,r2,he k s d (bD a1) _ _ _ r3,r4⟩
  | flat _ _ _ hf=>simp [D.flat] at hf
theorem aUx {w0:World} {M0:Mem} {X0:Nat->Option mF} {h0:Holder} {p0:List Nat} {d:D} {v0:Value} (ho:Own w0 M0 bs0 X0 h0 p0 d v0)(hN:bs0.length<=N):R M0 bs0 d v0->∀w M bs X h p v,Own w M bs X h p d v->Own w M (bs.take N) X h p d v:=by
  induction ho with
  | sl p es v ho =>
    intro _ w M bs X h p v h';cases h' with
    | sl _ _ _ ho'=>exact .sl _ _ _ ho'
    | flat _ _ _ hf=>exact .flat _ _ _ hf
  | xs p k es v ho =>
    intro _;rcases ho with ⟨rfl,_⟩ | ⟨b,n,cap,cur,E,e1,o1,o2,o3,o4,o5,o6,o7,o8,o9,o10,o11⟩
    . exact Dn fun d hd=>by simp at hd
    refine Dn fun d hd e he=>?_;obtain⟨i,hi⟩:=eO hd;obtain⟨j,hj⟩:=eO he;obtain⟨x,x1,x2⟩:=o11 i d j e hi hj;exact scR x2 hN
  | mp p n kd clock kvs v ho =>
    intro _;obtain⟨b,es,e1,o1,o2,o3,o4,o5,_,o6⟩:=ho;refine Pb (rU (aN.1 o1).1 hN) fun k s d hd=>?_;obtain⟨i,hi⟩:=eO hd;have hlt:=(aN.1 hi).1;rw [<- o5] at hlt;exact scR (o6 i k s d _ hi (bL hlt)).2.2.1 hN
  | mit p n since seen last v ho =>
    intro _;obtain⟨b,bm,e1,o1,_⟩:=ho;exact Yu (rU (aN.1 o1).1 hN)
  | mo p kd clock kvs v ho =>
    intro _;obtain⟨b,es,e1,o2,o3,o4,o5,_,o6⟩:=ho;refine Oy fun k s d hd=>?_;obtain⟨i,hi⟩:=eO hd;have hlt:=(aN.1 hi).1;rw [<- o5] at hlt;exact scR (o6 i k s d _ hi (bL hlt)).2.2.1 hN
  | agg p cs vs hr ih =>
    intro hR w M bs X h p v h';cases hR with
    | agg _ _ hl hrr h1=>
    cases h' with
    | agg _ _ vs' hr' =>
      refine .agg _ _ vs' fun i d x a1 a2=>?_;have hi:i<vs.size:=by rw [hl];exact(aN.1 a1).1
      exact ih i d _ a1 (bL hi) (hrr i d _ a1 (bL hi)) _ _ _ _ _ _ _ (hr' i d x a1 a2)
    | flat _ _ _ hf=>exact .flat _ _ _ hf
  | tup p cs vs hr ih =>
    intro hR w M bs X h p v h';cases hR with
    | tup _ _ hl hrr=>
    cases h' with
    | tup _ _ vs' hr' =>
      refine .tup _ _ vs' fun i d x a1 a2=>?_;have hi:i<vs.size:=by rw [hl];exact(aN.1 a1).1
      exact ih i d _ a1 (bL hi) (hrr i d _ a1 (bL hi)) _ _ _ _ _ _ _ (hr' i d x a1 a2)
    | flat _ _ _ hf=>exact .flat _ _ _ hf
  | flat p d v hf=>intro _ w M bs X h p v _;exact .flat _ _ _ hf
theorem Sc.v (x:Value):Sc N (.v x):=⟨fun M bs v h=>by cases h with | v _ h=>exact .v _ h,fun w M bs X h p v _=> .flat _ _ _ rfl⟩
theorem Sc.any :Sc N .any:=⟨fun M bs v _=> .any _,fun w M bs X h p v _=> .flat _ _ _ rfl⟩
theorem Sc.ref {off:Nat} (hn:n<N):Sc N (.ref n off):=⟨fun M bs v h=>by cases h with | ref _ _ b hb=>exact .ref _ _ b (nQ hn hb),fun w M bs X h p v _=> .flat _ _ _ rfl⟩
theorem Sc.ifc {t:Nat} {d:D} (hd:Sc N d):Sc N (.ifc t d):=⟨fun M bs v h=>by cases h with | ifc _ _ x hx=>exact .ifc _ _ x (hd.1 _ _ _ hx),fun w M bs X h p v _=> .flat _ _ _ rfl⟩
theorem Sc.xl :Sc N (.xl n):=⟨fun M bs v h=>by cases h with | xl a _ cap hc hm ha=>exact .xl a _ cap hc hm ha,fun w M bs X h p v _=> .flat _ _ _ rfl⟩
theorem Sc.mref (hn:n<N):Sc N (.mref n):=⟨fun M bs v h=>by cases h with | mref _ b hb=>exact .mref _ b (nQ hn hb),fun w M bs X h p v _=> .flat _ _ _ rfl⟩
theorem Sc.mp (hn:n<N)(he:∀(k:Value) (s:Nat) (d:D),(k,s,d)∈kvs->Sc N d):Sc N (.mp n kd clock kvs):=
  ⟨fun M bs v h=>by cases h with | mp _ _ _ b _ hb=>exact .mp _ _ _ b _ (nQ hn hb),Pb hn fun k s d hd=>(he k s d hd).1⟩
theorem Sc.mz :Sc N .mz:=⟨fun M bs v h=>by cases h with | mz b=>exact .mz b,fun w M bs X h p v _=> .flat _ _ _ rfl⟩
theorem Sc.mo (he:∀(k:Value) (s:Nat) (d:D),(k,s,d)∈kvs->Sc N d):Sc N (.mo kd clock kvs):=
  ⟨fun M bs v h=>by cases h with | mo _ _ b _=>exact .mo _ _ b _,Oy fun k s d hd=>(he k s d hd).1⟩
theorem Sc.xs (he:∀d∈es,∀e∈d.cells,Sc N e):Sc N (.xs k es):=
  ⟨fun M bs v h=>by cases h with | xs _ _ a n cap hn hc hm ha=>exact .xs _ _ a n cap hn hc hm ha,Dn fun d hd e h=>(he d hd e h).1⟩
theorem Sc.sl {o:Bool} (he:∀d∈es,Sc N d):Sc N (.sl o es):=
  ⟨fun M bs v h=>by
    cases h with
    | nil=>exact .nil _
    | emp o a cap hm=>exact .emp _ a cap hm
    | sl _ _ b off n cap k vs hl hn hk hc hm hr hs hx=>exact .sl _ _ b off n cap k vs hl hn hk hc hm (fun i d x a1 a2=>(he d (bD a1)).1 _ _ _ (hr i d x a1 a2)) hs hx,
  fun w M bs X h p v h'=>by
    cases h' with
    | sl _ _ _ ho'=>exact .sl _ _ _ ho'
    | flat _ _ _ hf=>exact .flat _ _ _ hf⟩
theorem Sc.agg (he:∀d∈cs,Sc N d):Sc N (.agg cs):=
  ⟨fun M bs v h=>by
    cases h with
    | agg _ vs hl hr h1=>exact .agg _ vs hl (fun i d x a1 a2=>(he d (bD a1)).1 _ _ _ (hr i d x a1 a2)) h1,
  fun w M bs X h p v h'=>by
    cases h' with
    | agg _ _ vs hr=>exact .agg _ _ vs fun i d x a1 a2=>(he d (bD a1)).2 _ _ _ _ _ _ _ (hr i d x a1 a2)
    | flat _ _ _ hf=>exact .flat _ _ _ hf⟩
theorem Sc.tup (he:∀d∈cs,Sc N d):Sc N (.tup cs):=
  ⟨fun M bs v h=>by
    cases h with
    | tup _ vs hl hr=>exact .tup _ vs hl (fun i d x a1 a2=>(he d (bD a1)).1 _ _ _ (hr i d x a1 a2)),
  fun w M bs X h p v h'=>by
    cases h' with
    | tup _ _ vs hr=>exact .tup _ _ vs fun i d x a1 a2=>(he d (bD a1)).2 _ _ _ _ _ _ _ (hr i d x a1 a2)
    | flat _ _ _ hf=>exact .flat _ _ _ hf⟩
theorem Sc.map {f:α->D} {l:List α} (h:∀a,Sc N (f a)):∀d∈l.map f,Sc N d:=fun d hd=>by
  obtain⟨a,_,rfl⟩:=aW.1 hd;exact h a
theorem Ct.trim {Q:D->List (List D)->Prop} (h:Ct P f args σ Q)
    (hq:∀r σ',Q r σ'->∃τ J,σ'=τ++J/\τ.length=σ.length/\Sc σ.length r/\(∀(n:Nat) (cs:List D),τ[n]?=some cs->σ[n]?=some cs\/∀d∈cs,Sc σ.length d)/\Q' r τ):Ct P f args σ Q':=by
  refine⟨h.1,fun w g vs hs hb ho=>(h.2 w g vs hs hb ho).mono ?_⟩;rintro e w' ⟨r,σ',x,g',rfl,hQ,hb',hf,hk⟩;obtain⟨τ,J,rfl,hl,hr,hτ,hQ'⟩:=hq r σ' hQ;have hol:g.bs.length=σ.length:=ho.ol;have hol':g'.bs.length=(τ++J).length:=hk.ol;have sc:∀(n:Nat) (cs:List D),τ[n]?=some cs->∀d∈cs,Sc σ.length d:=by
    intro n cs hn;rcases hτ n cs hn with h1 | h1
    . have hnl : n < g.bs.length := by rw [hol]; exact (aN.1 h1).1
      rcases ho.obj n _ cs (aT hnl) h1 with rfl | ⟨cur,E,o1,o2,o3,o4,o5⟩
      . intro d hd;simp at hd
      intro d hd;obtain⟨i,hi⟩:=eO hd;have hil:i<cur.size:=by rw [o2];exact(aN.1 hi).1
      obtain⟨r1,r2,_⟩:=o5 i d _ hi (bL hil);exact⟨scR r1 (by omega),aUx r2 (by omega) r1⟩
    exact h1
  refine⟨r,τ,x, { g' with bs:=g'.bs.take σ.length },rfl,hQ',hb',⟨hf.os,hf.tape,hf.output,hf.size,hf.keep,hf.mono,fun n b hn=>?_⟩,⟨hk.mem,hk.xlt,fun t=>?_,hk.ll,fun n b cs h1 h2=>by simp [St.ofRes] at h2,?_,fun n b cs h1 h2=>?_⟩⟩
  . exact nQ (by rw [<- hol];exact(aN.1 hn).1) (hf.bs n b hn)
  . have hsl := hk.slot t
    show SlotOk w' _ t (fQ [r] t) _
    have hsl':SlotOk w' g' t (fQ [r] t) (if t=0 then x else undef):=hsl
    match t with
    | 0=>exact⟨hr.1 _ _ _ hsl'.1,hr.2 _ _ _ _ _ _ _ hsl'.2⟩
    | t+1=>exact⟨.any _,.flat _ _ _ rfl⟩
  . show (g'.bs.take σ.length).length = τ.length
    rw [bF,hol',hl];simp;omega
  have h2':τ[n]?=some cs:=h2;have h1':g'.bs[n]?=some b:=by
    have:(g'.bs.take σ.length)[n]?=some b:=h1;rw [eL] at this;split at this
    . exact this
    cases this
  have hnl:=(aN.1 h2').1;have:=hk.obj n b cs h1' (by show(τ++J)[n]?=some cs;rw [bB hnl];exact h2');rcases this with rfl | ⟨cur,E,o1,o2,o3,o4,o5⟩
  . exact .inl rfl
  refine .inr ⟨cur,E,o1,o2,o3,o4,fun i d y a1 a2=>?_⟩;obtain⟨r1,r2,r3⟩:=o5 i d y a1 a2;have hsc:=sc n cs h2' d (bD a1);exact⟨hsc.1 _ _ _ r1,hsc.2 _ _ _ _ _ _ _ r2,r3⟩
end
section
theorem Ct.toX {Q:D->List (List D)->Prop} {Z:List (List D)->Prop} (h:Ct P f args σ Q)(hq:∀r σ',Q r σ'->vK k es r/\Z σ'):Ct P f args σ (fun r σ'=>r= .xs k es/\Z σ'):=by
  refine⟨h.1,fun w g vs hs hb ho=>(h.2 w g vs hs hb ho).mono ?_⟩;rintro e w' ⟨r,σ',x,g',rfl,hQ,hb',hf,hk⟩;obtain⟨hbase,hz⟩:=hq r σ' hQ;have hsl:=hk.slot 0;have hsl':SlotOk w' g' 0 (.d r) x:=hsl;obtain⟨hO,_,a,n,cap,rfl,hn,ha⟩:=Ip hbase hsl';refine⟨_,σ',_,g',rfl,⟨rfl,hz⟩,hb',hf,?_⟩;have hR:R g'.M g'.bs (.xs k es) (.slice a n cap):=by
    rcases hO with ⟨rfl,a',e1⟩ | ⟨b,n',cap',cur,E,e1,o1,o2,o3,o4,o5,o6,o7,_⟩
    . simp only [Value.slice.injEq] at e1
      obtain⟨rfl,rfl,rfl⟩:=e1;exact .xs k [] a 0 0 rfl (aX _) (iE _) (fun _=>⟨rfl,rfl⟩)
    simp only [Value.slice.injEq] at e1;obtain⟨rfl,rfl,rfl⟩:=e1;exact .xs k es _ _ _ o5 o6 o7 (by simp)
  have b3:=hk.set 0 (.d (.xs k es)) (.slice a n cap) ⟨hR,.xs _ _ _ _ hO⟩;have e:(St.ofRes r σ').set 0 (.d (.xs k es))=St.ofRes (.xs k es) σ':=by
    simp only [St.ofRes,St.set];congr 1;funext u
    match u with
    | 0=>rfl
    | u+1=>rfl
  rw [e] at b3;have ev':(fun u=>if u=0 then Value.slice a n cap else if u=0 then Value.slice a n cap else undef)=fun t=>if t=0 then Value.slice a n cap else undef:=by
    funext u;by_cases h:u=0 <;> simp [h]
  rw [ev'] at b3;exact b3
theorem Ct.strip {Q:D->List (List D)->Prop} (h:Ct P f args σ Q)(hq:∀r σ',Q r σ'->r.plain=true/\Q' r.strip σ'):Ct P f args σ Q':=by
  refine⟨h.1,fun w g vs hs hb ho=>(h.2 w g vs hs hb ho).mono ?_⟩;rintro e w' ⟨r,σ',x,g',rfl,hQ,hb',hf,hk⟩;obtain⟨hp,hz⟩:=hq r σ' hQ;have hsl:SlotOk w' g' 0 (.d r) x:=hk.slot 0;refine⟨_,σ',x,g',rfl,hz,hb',hf,?_⟩;have b3:=hk.set 0 (.d r.strip) x ⟨hsl.1.strip,mY hsl.1 (mR hp)⟩;have e:(St.ofRes r σ').set 0 (.d r.strip)=St.ofRes r.strip σ':=by
    simp only [St.ofRes,St.set];congr 1;funext u
    match u with
    | 0=>rfl
    | u+1=>rfl
  rw [e] at b3;have ev':(fun u=>if u=0 then x else if u=0 then x else undef)=fun t=>if t=0 then x else undef:=by
    funext u;by_cases h:u=0 <;> simp [h]
  rw [ev'] at b3;exact b3
theorem fH (f:α->D)(l:List α)(rest:List D)(i:Nat)(h:i<l.length):(l.map f++rest)[i]?=some (f l[i]):=by
  rw [bB (by simpa using h)];simp [h]
theorem iM (f:α->D)(l:List α)(rest:List D)(i:Nat)(x:α)(h:i<l.length):List.take i (l.map f++rest)++ [f x]++List.drop (i+1) (l.map f++rest)=(l.set i x).map f++rest:=by
  apply qB;intro j;have hs:=fD (cs:=l.map f++rest) (ds:= [f x]) (off:=i) (i:=j) (by simp;omega);simp only [bO,cU,eR] at hs;rw [hs];by_cases hj:j<l.length
  . rw [bB (by simpa using hj), bB (by simpa using hj), cD, cD, bZ]
    by_cases h1:j<i
    . rw [aJ h1,aD (by omega)]
    rw [aD h1];by_cases h2:j=i
    . subst h2;simp [h]
    rw [aD (by omega),aD (by omega)]
  rw [bT (by simpa using hj),bT (by simpa using hj),aD (by omega),aD (by omega)];simp
end
variable {rr:Option Nat} {dfr:List Deferred}
theorem Ok.openXO_aux (h : Ok w g st val) {m i b0 : Nat} {news:List D} {d0 d1 : D} {X' : Nat -> Option mF}
    (hm:st.obj[m]?=some cs) (hi:cs[i]?=some d0)
    (ho1:∀(b':Nat) (t:mF),g.X b'=some t->t≠(.obj m, [i])->X' b'=some t) (ho2:∀b',g.X b'=none->X' b'=none) (ho3:∀(b':Nat) (t:mF),X' b'=some t->b'<w.heap.size)
    (hrs:∀(b:Nat) (cur:Array Value) (E:TypeId) (v:Value),g.bs[m]?=some b->w.heap[b]?=some (.cells cur E (0,0))->cur[i]?=some v->R g.M (g.bs++ [b0]) d1 v) (hfl:d1.flat=true)
    (hbox:∀(g':Gh),g'= { g with X:=X',bs:=g.bs++ [b0] } ->BoxOk w g' (.obj st.obj.length) b0 news):
    ∃g':Gh,g'.bl=g.bl/\Fr w g w g'/\Ok w g' { st with obj:=st.obj.set m (cs.set i d1)++ [news] } val:=by
  have hml:=(aN.1 hm).1;have hbs:∀(n b':Nat),g.bs[n]?=some b'->(g.bs++ [b0])[n]?=some b':=fun n b' hb=>by
    rw [bB (by exact(aN.1 hb).1)];exact hb
  have other:∀(hd:Holder),hd≠ .obj m->∀(b':Nat) (q:List Nat),g.X b'=some (hd,q)->w.heap[b']?=w.heap[b']?/\(∀o,g.M b' o=none->g.M b' o=none)/\X' b'=some (hd,q):=
    fun hd hne b' q hx=>⟨rfl,fun _ h=>h,ho1 b' _ hx (by intro e;simp only [gA] at e;exact hne e.1)⟩
  refine⟨{ g with X:=X',bs:=g.bs++ [b0] },rfl,⟨rfl,rfl,rfl,aX _,fun b' hb' hx=>⟨rfl,ho2 b' hx,fun _=>rfl⟩,fun _ _ _ h=>h,hbs⟩,h.mem,ho3,fun u=>?_,h.ll,fun n b' cs h1 h2=>(h.loc n b' cs h1 h2).keep (fun _ _ _ h=>h) hbs (other _ (by simp)),by simp [h.ol],fun n b' cs' h1 h2=>?_⟩
  . exact(h.slot u).keep (fun _ _ _ h=>h) hbs (fun _ _ h=>h) (other _ (by simp))
  by_cases hn:n<st.obj.length
  . have h1' : g.bs[n]? = some b' := by rw [bB (by rw [h.ol]; exact hn)] at h1; exact h1
    have h2':(st.obj.set m (cs.set i d1))[n]?=some cs':=by rw [bB (by simpa using hn)] at h2;exact h2
    rw [bZ] at h2';split at h2'
    . rename_i e
      subst e;simp only [bE] at h2';subst h2';have hne:cs≠ []:=by rintro rfl;simp at hi
      obtain⟨cur,E,m1,m2,m3,m4,m5⟩:=(h.obj m b' cs h1' hm).resolve_left hne;refine .inr ⟨cur,E,m1,by simpa using m2,ho1 _ _ m3 (by simp),m4,fun j d x a1 a2=>?_⟩;rw [bZ] at a1;split at a1
      . rename_i e
        subst e;have hil:=(aN.1 hi).1;have hd:d1=d:=by first | (simpa [hil] using a1) | exact a1
        subst hd;obtain⟨r1,r2,r3⟩:=m5 i d0 x hi a2;exact⟨hrs b' cur E x h1' m1 a2,.flat _ _ _ hfl,r3⟩
      rename_i e;obtain⟨r1,r2,r3⟩:=m5 j d x a1 a2;refine⟨r1.mono (fun _ _ _ h=>h) hbs,r2.move (fun _ _ _ h=>h) hbs [j] (fun b2 q hX=>⟨rfl,fun _ h=>h,ho1 b2 _ hX (by intro e2;simp at e2;exact e e2.1.symm)⟩),r3⟩
    rename_i e;exact(h.obj n b' cs' h1' h2').keep (fun _ _ _ h=>h) hbs (other _ (by simp;exact fun e'=>e e'.symm))
  have hlt:=(aN.1 h2).1;simp at hlt;have hn':n=st.obj.length:=by omega
  subst hn';have e1:b'=b0:=by
    have h1':=h1;rw [<- h.ol] at h1';simpa using h1'.symm
  have e2:cs'=news:=by
    rw [bT (by simp)] at h2;simpa using h2.symm
  subst e1;subst e2;exact hbox _ rfl
theorem Ok.openXO (h : Ok w g st val) (m i k : Nat) (es cs : List D) (hm : st.obj[m]? = some cs) (hi : cs[i]? = some (.xs k es)) (hk0 : 0 < k) :
    ∃ (cap : Nat) (rest : List D) (g' : Gh), es.length <= cap /\ cap <= maxLen /\ rest.length = (cap - es.length) * k /\ (∀ d ∈ es, d.ncells = k /\ d.arr = true) /\ g'.bl = g.bl /\ Fr w g w g' /\
      Ok w g' { st with obj:=st.obj.set m (cs.set i (.slo st.obj.length 0 es.length cap))++ [es.flatMap D.cells++rest] } val:=by
  have hml:=(aN.1 hm).1;obtain⟨bm,hbm⟩:∃bm,g.bs[m]?=some bm:=⟨_,aT (by rw [h.ol];exact hml)⟩;have hne:cs≠ []:=by rintro rfl;simp at hi
  obtain⟨curm,Em,m1,m2,m3,m4,m5⟩:=(h.obj m bm cs hbm hm).resolve_left hne;have hil:=(aN.1 hi).1;obtain⟨v,hvi⟩:∃v,curm[i]?=some v:=⟨_,bL (by rw [m2];exact hil)⟩;obtain⟨hr,ho,hone⟩:=m5 i _ v hi hvi;have hO:Zr w g.M g.bs g.X (.obj m, [i]) k es v:=by
    cases ho with
    | xs p k es v ho=>exact ho
    | flat p d v hf=>simp [D.flat] at hf
  rcases hO with ⟨rfl,a,hv⟩ | ⟨b,n,cap,cur,E,hv,o1,o2,o3,o4,o5,o6,o7,o8,o9,o10,o11⟩
  . have huniq : ∀ (b : Nat) (cur : Array Value) (E : TypeId) (v' : Value), g.bs[m]? = some b -> w.heap[b]? = some (.cells cur E (0, 0)) -> cur[i]? = some v' -> v' = v := by
      intro b cur E v' e1 e2 e3;rw [hbm] at e1;simp only [bE] at e1;subst e1;rw [m1] at e2;simp only [bE,Obj.cells.injEq] at e2;rw [<- e2.1,hvi] at e3;simpa using e3.symm
    obtain⟨g',q1,q2,q3⟩:=h.openXO_aux (d1:= .slo st.obj.length 0 0 0) (b0:=0) (news:= []) (X':=g.X) hm hi (fun b' t hx _=>hx) (fun _ h=>h) h.xlt (fun b cur E v' e1 e2 e3=>by
      rw [huniq b cur E v' e1 e2 e3,hv];exact .slo _ _ _ _ _ (fun h=>absurd h (by simp)) (by simp) (by simp)) rfl (fun g' _=> .inl rfl)
    exact⟨0, [],g',by simp,by simp,by simp,by simp,q1,q2,q3⟩
  have huniq:∀(b:Nat) (cur:Array Value) (E:TypeId) (v':Value),g.bs[m]?=some b->w.heap[b]?=some (.cells cur E (0,0))->cur[i]?=some v'->v'=v:=by
    intro b cur E v' e1 e2 e3;rw [hbm] at e1;simp only [bE] at e1;subst e1;rw [m1] at e2;simp only [bE,Obj.cells.injEq] at e2;rw [<- e2.1,hvi] at e3;simpa using e3.symm
  subst o5;have hlen:∀d∈es,d.cells.length=k:=fun d hd=>by
    obtain⟨i,hi⟩:=eO hd;rw [eC];exact(o10 i d hi).1
  have hfl:=rY es hlen;have hsub:es.length * k+(cap - es.length) * k=cap * k:=by rw [<- cW];congr 1;omega
  have hbs:∀(n b':Nat),g.bs[n]?=some b'->(g.bs++ [b])[n]?=some b':=fun n b' hb=>by
    rw [bB (by exact(aN.1 hb).1)];exact hb
  obtain⟨g',q1,q2,q3⟩:=h.openXO_aux (d1:= .slo st.obj.length 0 es.length cap) (b0:=b) (news:=es.flatMap D.cells++List.replicate ((cap - es.length) * k) .any) (X':=gJ b (.obj st.obj.length, []) g.X) hm hi
    (fun b' t hx ht=>by
      have:b'≠b:=by intro e;subst e;rw [o1] at hx;simp only [bE] at hx;exact ht hx.symm
      simp only [gJ,aD this];exact hx)
    (fun b' hx=>by
      have:b'≠b:=by intro e;subst e;rw [o1] at hx;cases hx
      simp only [gJ,aD this];exact hx)
    (fun b' t hx=>by
      by_cases e:b'=b
      . subst e;exact h.xlt _ _ o1
      simp only [gJ,aD e] at hx;exact h.xlt b' t hx)
    (fun b2 cur E v' e1 e2 e3=>by
      rw [huniq b2 cur E v' e1 e2 e3,hv];exact .slo _ _ _ _ _ (fun _=>⟨b,by rw [<- h.ol];simp,rfl⟩) o6 o7) rfl (fun g' hg=>by
      subst hg;refine .inr ⟨cur,E,o2,?_,by simp [gJ],o8,fun i d x a1 a2=>?_⟩
      . rw [bA,hfl,cR,hsub,o4]
      have h1c:=o9 i x a2;by_cases hi:i<es.length * k
      . rw [bB (by rw [hfl]; exact hi), tX o3 es hlen, lT] at a1
        obtain⟨d0,b1,b2⟩:=a1;obtain⟨y,y1,y2⟩:=o11 _ d0 _ d b1 b2;have:i / k * k+i % k=i:=by rw [qA];exact yQ i k
        rw [this,a2] at y1;have hyx:y=x:=by simpa using y1.symm
        subst hyx;have harr:=(o10 _ d0 b1).2;have hf:d.flat=true:=by
          unfold D.arr at harr;rw [gE] at harr;exact harr d (bD b2)
        exact⟨y2.mono (fun _ _ _ h=>h) hbs,.flat _ _ _ hf,h1c⟩
      rw [bT (by rw [hfl];omega)] at a1;have hd:d= .any:=pR (bD a1);subst hd;exact⟨.any _,.flat _ _ _ rfl,h1c⟩)
  exact⟨cap,_,g',o6,o7,by simp,fun d hd=>by
    obtain⟨i,hi⟩:=eO hd;exact o10 i d hi,q1,q2,q3⟩
theorem Ok.closeXO (h:Ok w g st val)(m i k N len cap:Nat)(es cs ds:List D)(hm:st.obj[m]?=some cs)(hi:cs[i]?=some (.slo N 0 len cap))(hN:st.obj[N]?=some ds)(hmN:m≠N)(hk:0<k)(hcs:ds.length=cap * k)(hl:es.length=len)
    (hes:∀d∈es,d.ncells=k/\d.arr=true) (he:es.flatMap D.cells<+:ds):
    ∃g':Gh,g'.bl=g.bl/\Fr w g w g'/\Ok w g' { st with obj:=(st.obj.set m (cs.set i (.xs k es))).set N [] } val:=by
  have hml:=(aN.1 hm).1;have hNl:=(aN.1 hN).1;obtain⟨bm,hbm⟩:∃bm,g.bs[m]?=some bm:=⟨_,aT (by rw [h.ol];exact hml)⟩;obtain⟨b,hbN⟩:∃b,g.bs[N]?=some b:=⟨_,aT (by rw [h.ol];exact hNl)⟩;have hne:cs≠ []:=by rintro rfl;simp at hi
  obtain⟨curm,Em,m1,m2,m3,m4,m5⟩:=(h.obj m bm cs hbm hm).resolve_left hne;have hil:=(aN.1 hi).1;obtain⟨v,hvi⟩:∃v,curm[i]?=some v:=⟨_,bL (by rw [m2];exact hil)⟩;obtain⟨hr,_,hone⟩:=m5 i _ v hi hvi;have hlen:∀d∈es,d.cells.length=k:=fun d hd=>by rw [eC];exact(hes d hd).1
  -- the tags
  obtain⟨X',t1,t2,t3,t4⟩:∃X':Nat->Option mF,(∀(b':Nat) (t:mF),g.X b'=some t->t.1≠ .obj N->X' b'=some t)/\(∀b',g.X b'=none->X' b'=none)/\(∀(b':Nat) (t:mF),X' b'=some t->b'<w.heap.size)/\
      (R g.M g.bs (.xs k es) v/\Zr w g.M g.bs X' (.obj m, [i]) k es v):=by
    cases hr with
    | slo _ _ _ _ x hb hc hmx=>
    rcases yM cap with hc0 | hcap0
    . subst hc0
      have hl0:len=0:=by omega
      subst hl0;have hes0:es= []:=nB hl;subst hes0;exact⟨g.X,fun _ _ h _=>h,fun _ h=>h,h.xlt,.xs k [] _ _ 0 rfl (aX _) hmx (fun _=>⟨rfl,rfl⟩),.inl ⟨rfl,_,rfl⟩⟩
    obtain⟨b',hb2,rfl⟩:=hb hcap0;have ebb:b'=b:=by rw [hbN] at hb2;simpa using hb2.symm
    subst ebb;have hdne:ds≠ []:=by
      intro e;rw [e] at hcs;have:0<cap * k:=pH hcap0 hk;simp at hcs;omega
    obtain⟨cur,E,o1,o2,o3,o4,o5⟩:=(h.obj N b' ds hb2 hN).resolve_left hdne;refine⟨gJ b' (.obj m, [i]) g.X,fun b2 t hx ht=>?_,fun b2 hx=>?_,fun b2 t hx=>?_,.xs k es _ _ cap hl.symm (by omega) hmx (by simp),.inr ⟨b',len,cap,cur,E,rfl,by simp [gJ],o1,hk,by rw [o2,hcs],hl.symm,hc,hmx,o4,fun o c ho=>?_,fun i d hi=>hes d (bD hi),fun i d j e a1 a2=>?_⟩⟩
    . have : b2 ≠ b' := by intro e; subst e; rw [o3] at hx; simp only [bE] at hx; subst hx; exact ht rfl
      simp only [gJ,aD this];exact hx
    . have : b2 ≠ b' := by intro e; subst e; rw [o3] at hx; cases hx
      simp only [gJ,aD this];exact hx
    . by_cases e : b2 = b'
      . subst e;exact h.xlt _ _ o3
      simp only [gJ,aD e] at hx;exact h.xlt b2 t hx
    . have hlt := (dI.1 ho).1
      rw [o2] at hlt;exact(o5 o _ c (aT hlt) ho).2.2
    have hcell:=Bc hk es hlen a1 a2;obtain⟨rest,hrest⟩:=he;have hcc:ds[i * k+j]?=some e:=by
      rw [<- hrest,bB (by exact(aN.1 hcell).1)];exact hcell
    have hlt:=(aN.1 hcc).1;rw [<- o2] at hlt;exact⟨_,bL hlt,(o5 _ e _ hcc (bL hlt)).1⟩
  have other:∀(hd:Holder),hd≠ .obj N->∀(b':Nat) (q:List Nat),g.X b'=some (hd,q)->w.heap[b']?=w.heap[b']?/\(∀o,g.M b' o=none->g.M b' o=none)/\X' b'=some (hd,q):=
    fun hd hne b' q hx=>⟨rfl,fun _ h=>h,t1 b' _ hx hne⟩
  refine⟨{ g with X:=X' },rfl,⟨rfl,rfl,rfl,aX _,fun b' hb' hx=>⟨rfl,t2 b' hx,fun _=>rfl⟩,fun _ _ _ h=>h,fun _ _ h=>h⟩,h.mem,t3,fun u=>?_,h.ll,fun n b' cs h1 h2=>(h.loc n b' cs h1 h2).keep (fun _ _ _ h=>h) (fun _ _ h=>h) (other _ (by simp)),by simp [h.ol],fun n b' cs' h1 h2=>?_⟩
  . exact(h.slot u).keep (fun _ _ _ h=>h) (fun _ _ h=>h) (fun _ _ h=>h) (other _ (by simp))
  by_cases enN:n=N
  . subst enN
    exact .inl (by simpa [hNl] using h2.symm)
  by_cases enm:n=m
  . subst enm
    have h2':cs.set i (.xs k es)=cs':=by
      rw [bZ,aD (fun e=>enN e.symm),bZ] at h2;simpa [hml] using h2
    subst h2';have ebm:b'=bm:=by rw [hbm] at h1;simpa using h1.symm
    subst ebm;refine .inr ⟨curm,Em,m1,by simpa using m2,t1 _ _ m3 (by simp;exact enN),m4,fun j d x a1 a2=>?_⟩;rw [bZ] at a1;split at a1
    . rename_i e
      subst e;have hd:D.xs k es=d:=by first | (simpa [hil] using a1) | exact a1
      subst hd;have hx:x=v:=by rw [hvi] at a2;simpa using a2.symm
      subst hx;exact⟨t4.1,.xs _ _ _ _ t4.2,hone⟩
    obtain⟨r1,r2,r3⟩:=m5 j d x a1 a2;exact⟨r1,r2.keep (fun _ _ _ h=>h) (fun _ _ h=>h) (other _ (by simp;exact enN)),r3⟩
  have h2':st.obj[n]?=some cs':=by
    rw [bZ,aD (fun e=>enN e.symm),bZ,aD (fun e=>enm e.symm)] at h2;exact h2
  exact(h.obj n b' cs' h1 h2').keep (fun _ _ _ h=>h) (fun _ _ h=>h) (other _ (by simp;exact enN))
theorem Ok.toXO (h : Ok w g st val) (m i k : Nat) (cs : List D) (hm : st.obj[m]? = some cs) (hi : cs[i]? = some (.sl true [])) :
    Ok w g { st with obj:=st.obj.set m (cs.set i (.xs k [])) } val:=by
  have hml:=(aN.1 hm).1;refine⟨h.mem,h.xlt,h.slot,h.ll,h.loc,by simp [h.ol],fun n b cs' h1 h2=>?_⟩;rw [bZ] at h2;split at h2
  . rename_i e
    subst e;simp only [bE] at h2;subst h2;have hne:cs≠ []:=by rintro rfl;simp at hi
    obtain⟨cur,E,m1,m2,m3,m4,m5⟩:=(h.obj m b cs h1 hm).resolve_left hne;refine .inr ⟨cur,E,m1,by simpa using m2,m3,m4,fun j d x a1 a2=>?_⟩;rw [bZ] at a1;split at a1
    . rename_i e
      subst e;have hil:=(aN.1 hi).1;have hd:D.xs k []=d:=by first | (simpa [hil] using a1) | exact a1
      subst hd;obtain⟨r1,r2,r3⟩:=m5 i _ x hi a2;obtain⟨a,rfl⟩:∃a,x= .slice a 0 0:=by
        have hO:aAp w g.M g.X (.obj m, [i]) [] x:=by
          cases r2 with
          | sl p es v ho=>exact ho
          | flat p d v hf=>simp [D.flat] at hf
        rcases hO with ⟨a,n,rfl⟩ | ⟨b,n,cap,k',cur,E,_,hc,_⟩
        . cases r1 with
          | nil=>exact⟨_,rfl⟩
          | emp o a' cap hm'=>exact⟨_,rfl⟩
          | sl o' es' b off n' cap k vs hl hn hk hc => have hn0 : n = 0 := by simpa using hn
                                                       subst hn0;exact⟨_,rfl⟩
        exact absurd rfl hc
      exact⟨.xs k [] a 0 0 rfl (aX _) (iE _) (fun _=>⟨rfl,rfl⟩),.xs _ _ _ _ (.inl ⟨rfl,a,rfl⟩),r3⟩
    exact m5 j d x a1 a2
  exact h.obj n b cs' h1 h2
def leC:List D->List D->Prop
  | [], []=>True
  | a::r,b::q=>(b=a\/b=a.s1)/\leC r q
  | _,_=>False
theorem aLh:∀ {cs cs':List D},leC cs cs'->cs'.length=cs.length/\∀(i:Nat) (d':D),cs'[i]?=some d'->∃d,cs[i]?=some d/\(d'=d\/d'=d.s1)
  | [], [],_=>⟨rfl,fun i d' h=>by simp at h⟩
  | [],_::_,h=>h.elim
  | _::_, [],h=>h.elim
  | a :: r, b :: q, h => by
    obtain⟨h1,h2⟩:=h;obtain⟨l1,l2⟩:=aLh h2;refine⟨by simp [l1],fun i d' h=>?_⟩
    match i with
    | 0=>simp at h;subst h;exact⟨a,rfl,h1⟩
    | i+1=>exact l2 i d' (by simpa using h)
theorem Ok.weakO (h:Ok w g st val)(m:Nat)(cs cs':List D)(hm:st.obj[m]?=some cs)(hw:leC cs cs'):Ok w g { st with obj:=st.obj.set m cs' } val:=by
  obtain⟨hl,hc⟩:=aLh hw;refine⟨h.mem,h.xlt,h.slot,h.ll,h.loc,by simp [h.ol],fun n b cs2 h1 h2=>?_⟩;rw [bZ] at h2;split at h2
  . rename_i e
    subst e;split at h2
    . simp only [bE] at h2
      subst h2;rcases h.obj m b cs h1 hm with h0 | ⟨cur,E,m1,m2,m3,m4,m5⟩
      . left;subst h0;exact nB hl
      refine .inr ⟨cur,E,m1,by rw [hl];exact m2,m3,m4,fun j d x a1 a2=>?_⟩;obtain⟨d0,b1,b2⟩:=hc j d a1;obtain⟨r1,r2,r3⟩:=m5 j d0 x b1 a2;rcases b2 with rfl | rfl
      . exact⟨r1,r2,r3⟩
      exact⟨r1.s1,Rq r1 r3,r3⟩
    cases h2
  exact h.obj n b cs2 h1 h2
theorem Uo (m i k:Nat) (hm:obj[m]?=some cs)(hi:cs[i]?=some (.sl true []))
    (h:eV rr dfr P c Q (St.mk' n l loc (obj.set m (cs.set i (.xs k []))))):eV rr dfr P c Q (St.mk' n l loc obj):=by
  intro w0 g0 w g tmps hf hok hn;exact h w0 g0 w g tmps hf (hok.toXO m i k cs hm hi) hn
theorem Mj (m:Nat)(cs':List D) (hm:obj[m]?=some cs)(hw:leC cs cs')
    (h:eV rr dfr P c Q (St.mk' n l loc (obj.set m cs'))):eV rr dfr P c Q (St.mk' n l loc obj):=by
  intro w0 g0 w g tmps hf hok hn;exact h w0 g0 w g tmps hf (hok.weakO m cs cs' hm hw) hn
theorem Ii (ts k:Nat) (hs:eE l ts= .d (.sl true []))
    (h:eV rr dfr P c Q (St.mk' n ((ts,.d (.xs k []))::l) loc obj)):eV rr dfr P c Q (St.mk' n l loc obj):=by
  intro w0 g0 w g tmps hf hok hn;have hsl:=hok.slot ts;have hs':(St.mk' n l loc obj).env ts= .d (.sl true []):=hs;rw [hs'] at hsl;obtain⟨hO,_,a,m,cap,hv,hm,ha⟩:=Ip (k:=k) (es:= []) (.inr (.inl ⟨rfl,rfl⟩)) hsl;have hR:R g.M g.bs (.xs k []) (cC tmps ts):=by
    rcases hO with ⟨_,a',e1⟩ | ⟨b,n',cap',cur,E,e1,o1,o2,o3,o4,o5,o6,o7,_⟩
    . rw [e1];exact .xs k [] a' 0 0 rfl (aX _) (iE _) (fun _=>⟨rfl,rfl⟩)
    rw [e1];exact .xs k [] _ _ _ o5 o6 o7 (by simp)
  have hok2:=hok.set ts (.d (.xs k [])) (cC tmps ts) ⟨hR,.xs _ _ _ _ hO⟩;have efun:(fun u=>if u=ts then cC tmps ts else cC tmps u)=cC tmps:=by
    funext u;by_cases hu:u=ts <;> simp [hu]
  rw [efun] at hok2;exact h w0 g0 w g tmps hf hok2 hn
theorem Zj (m i k:Nat) (hm:obj[m]?=some cs)(hi:cs[i]?=some (.xs k es))(hk0:0<k)
    (h:∀(cap:Nat) (rest:List D),es.length<=cap->cap<=maxLen->rest.length=(cap - es.length) * k->(∀d∈es,d.ncells=k/\d.arr=true)->eV rr dfr P c Q (St.mk' n l loc (obj.set m (cs.set i (.slo obj.length 0 es.length cap))++ [es.flatMap D.cells++rest]))):eV rr dfr P c Q (St.mk' n l loc obj):=by
  intro w0 g0 w g tmps hf hok hn;obtain⟨cap,rest,g',a1,a2,a3,a4,_,hfr,hok'⟩:=hok.openXO m i k es cs hm hi hk0;exact h cap rest a1 a2 a3 a4 w0 g0 w g' tmps (hf.trans hfr) hok' hn
theorem Vf (m i k N len cap:Nat)(es cs ds:List D) (hm:obj[m]?=some cs)(hi:cs[i]?=some (.slo N 0 len cap))(hN:obj[N]?=some ds)(hmN:m≠N)(hk:0<k)(hcs:ds.length=cap * k)(hl:es.length=len)
    (hes:∀d∈es,d.ncells=k/\d.arr=true) (he:es.flatMap D.cells<+:ds) (h:eV rr dfr P c Q (St.mk' n l loc ((obj.set m (cs.set i (.xs k es))).set N []))):eV rr dfr P c Q (St.mk' n l loc obj):=by
  intro w0 g0 w g tmps hf hok hn;obtain⟨g',_,hfr,hok'⟩:=hok.closeXO m i k N len cap es cs ds hm hi hN hmN hk hcs hl hes he;exact h w0 g0 w g' tmps (hf.trans hfr) hok' hn
theorem Ct.closeXO {Q:D->List (List D)->Prop} (h:Ct P f args σ Q)
    (hq:∀r σ',Q r σ'->∃(m i k N len cap:Nat) (es cs ds:List D),(σ'[m]?=some cs/\cs[i]?=some (.slo N 0 len cap)/\σ'[N]?=some ds/\m≠N/\0<k/\ds.length=cap * k/\es.length=len/\(∀d∈es,d.ncells=k/\d.arr=true)/\es.flatMap D.cells<+:ds)/\Q' r ((σ'.set m (cs.set i (.xs k es))).set N [])):Ct P f args σ Q':=by
  refine⟨h.1,fun w g vs hs hb ho=>(h.2 w g vs hs hb ho).mono ?_⟩;rintro e w' ⟨r,σ',x,g',rfl,hQ,hb',hf,hk⟩;obtain⟨m,i,k,N,len,cap,es,cs,ds,⟨a1,a2,a3,a4,a5,a6,a7,a8,a9⟩,hQ'⟩:=hq r σ' hQ;obtain⟨g2,b1,b2,b3⟩:=hk.closeXO m i k N len cap es cs ds a1 a2 a3 a4 a5 a6 a7 a8 a9;exact⟨r,_,x,g2,rfl,hQ',b1.trans hb',hf.trans b2,b3⟩
theorem Ok.mapToCell (h:Ok w g st val)(t m i N:Nat)(kd:TypeDesc)(clock:Nat)(kvs:List (Value×Nat×D))(cs:List D)(hs:st.env t= .d (.mp N kd clock kvs))(hm:st.obj[m]?=some cs)(hi:cs[i]?=some (.mref N)):
    ∃g':Gh,g'.bl=g.bl/\Fr w g w g'/\Ok w g' { st.set t (.d (.mref N))with obj:=st.obj.set m (cs.set i (.mp N kd clock kvs)) } val:=by
  have hsl:=h.slot t;rw [hs] at hsl;obtain⟨hr,ho⟩:=hsl;generalize hv:val t=v at hr ho;cases ho with
  | flat _ _ _ hf=>simp [D.flat] at hf
  | mp _ _ _ _ _ _ ho=>
  obtain⟨b,es,rfl,e1,e2,e3,e4,e5,e6,e7⟩:=ho;have hml:=(aN.1 hm).1;obtain⟨bm,hbm⟩:∃bm,g.bs[m]?=some bm:=⟨_,aT (by rw [h.ol];exact hml)⟩;have hne:cs≠ []:=by rintro rfl;simp at hi
  obtain⟨cur,E,o1,o2,o3,o4,o5⟩:=(h.obj m bm cs hbm hm).resolve_left hne;have hil:=(aN.1 hi).1;obtain⟨x,hx⟩:∃x,cur[i]?=some x:=⟨_,bL (by rw [o2];exact hil)⟩;have hxv:x= .map (some b):=by
    obtain⟨r1,_,_⟩:=o5 i _ x hi hx;cases r1 with
    | mref _ b' hb'=>rw [e1] at hb';simp at hb';rw [hb']
  have hbb:bm≠b:=by rintro rfl;rw [o1] at e3;cases e3
  have other:∀(hd:Holder) (b':Nat) (q:List Nat),(hd,q)≠(Holder.slot t, [])->g.X b'=some (hd,q)->w.heap[b']?=w.heap[b']?/\(∀o,g.M b' o=none->g.M b' o=none)/\gJ b (.obj m, [i]) g.X b'=some (hd,q):=fun hd b' q hn hx=>by
    refine⟨rfl,fun _ h=>h,?_⟩;have:b'≠b:=by rintro rfl;rw [e2] at hx;simp only [bE] at hx;exact hn hx.symm
    simp only [gJ,aD this];exact hx
  refine⟨{ g with X:=gJ b (.obj m, [i]) g.X },rfl,⟨rfl,rfl,rfl,aX _,fun b' hb' hx=>⟨rfl,?_,fun _=>rfl⟩,fun _ _ _ h=>h,fun _ _ h=>h⟩,?_⟩
  . have : b' ≠ b := by rintro rfl; rw [e2] at hx; cases hx
    show gJ b (.obj m, [i]) g.X b'=none
    simp only [gJ,aD this];exact hx
  refine⟨h.mem,fun b' t' hx=>?_,fun u=>?_,h.ll,fun n b' cs h1 h2=>(h.loc n b' cs h1 h2).keep (fun _ _ _ h=>h) (fun _ _ h=>h) (fun b' q=>other _ b' q (by simp)),by simp [h.ol],fun n b' cs' h1 h2=>?_⟩
  . by_cases e : b' = b
    . subst e;exact h.xlt _ _ e2
    simp only [gJ,aD e] at hx;exact h.xlt b' t' hx
  . simp only [St.set]
    by_cases hu:u=t
    . subst hu
      simp only [aU];rw [hv];exact⟨.mref _ b e1,.flat _ _ _ rfl⟩
    simp only [hu,bI];exact(h.slot u).keep (fun _ _ _ h=>h) (fun _ _ h=>h) (fun _ _ h=>h) (fun b' q=>other _ b' q (by simp [hu]))
  have h2':(st.obj.set m (cs.set i (.mp N kd clock kvs)))[n]?=some cs':=h2;rw [bZ] at h2';by_cases e:m=n
  . subst e
    simp only [aU,hml] at h2';have eds:cs.set i (.mp N kd clock kvs)=cs':=by simpa using h2'
    subst eds;have ebm:b'=bm:=by rw [hbm] at h1;simpa using h1.symm
    subst ebm;refine .inr ⟨cur,E,o1,by simpa using o2,(other _ _ _ (by simp) o3).2.2,o4,fun j d y c1 c2=>?_⟩;rw [bZ] at c1;by_cases ej:i=j
    . subst ej
      simp only [aU,hil] at c1;have ed:D.mp N kd clock kvs=d:=by simpa using c1
      subst ed;have ey:y=x:=by rw [hx] at c2;simpa using c2.symm
      subst ey;subst hxv;exact⟨.mp _ _ _ b _ e1,.mp _ _ _ _ _ _ ⟨b,es,rfl,e1,by simp [gJ],e3,e4,e5,e6,e7⟩,rfl⟩
    rw [aD ej] at c1;obtain⟨r1,r2,r3⟩:=o5 j d y c1 c2;exact⟨r1,r2.move (fun _ _ _ h=>h) (fun _ _ h=>h) [j] fun b'' q hq=>other _ b'' _ (by simp) hq,r3⟩
  rw [aD e] at h2';exact(h.obj n b' cs' h1 h2').keep (fun _ _ _ h=>h) (fun _ _ h=>h) (fun b' q=>other _ b' q (by simp))
theorem Lu (t m i:Nat) (ht:eE l t= .d (.mp N kd clock kvs))(hm:obj[m]?=some cs)(hi:cs[i]?=some (.mref N))
    (h:eV rr dfr P c Q (St.mk' n ((t,.d (.mref N))::l) loc (obj.set m (cs.set i (.mp N kd clock kvs))))):eV rr dfr P c Q (St.mk' n l loc obj):=by
  intro w0 g0 w g tmps hf hok hn;obtain⟨g',_,hfr,hok'⟩:=hok.mapToCell t m i N kd clock kvs cs ht hm hi;exact h w0 g0 w g' tmps (hf.trans hfr) hok' hn
variable {K:St->Prop}{Q:Exit->St->Prop}{all ops ops' r r2:List Oper}{args args':List D}{c:Cfg}{i m n t:Nat}{ks:List DK}{l:List (Nat×Slot)}{loc obj σ:List (List D)}{s st:St}{x:Bool}{y:Code}{α:Type}
theorem bR (l:List α)(k:Nat)(h:k<l.length):l.take (k+1)=l.take k++ [l[k]]:=by
  rw [List.take_add_one,aT h];rfl
theorem oW {p:List α->Prop} (h0:p [])(h1:∀l x,p l->p (l++ [x]))(l:List α):p l:=by
  have:∀(r:List α),p r.reverse:=by
    intro r;induction r with
    | nil=>exact h0
    | cons a r ih=>rw [Gd];exact h1 _ _ ih
  have:=this l.reverse
  rwa [List.reverse_reverse] at this
def vR {α:Type} (p:α->Bool)(l:List α):Int:=match l.findIdx? p with | some k=>k | none=> -1
theorem Hj {p:α->Bool} {l:List α} {k:Nat} (h:k<l.length)(hh:∀x∈l.take k,p x=false)(e:p l[k]=true):vR p l=k:=by
  have:l.findIdx? p=some k:=by
    rw [pQ];refine⟨h,e,fun j hj=>?_⟩;have:=hh ((l.take k)[j]'(by simp;omega)) (cB _);simpa using this
  simp [vR,this]
theorem xV {p:α->Bool} {l:List α} (h:∀x∈l,p x=false):vR p l= -1:=by
  have:l.findIdx? p=none:=by
    rw [pK];simpa using h
  simp [vR,this]
theorem zZ (p:α->Bool)(l:List α):(vR p l= -1/\l.filter (fun x=> !p x)=l)\/∃k:Nat,vR p l=k/\k<l.length/\∀x∈l.take k,p x=false:=by
  unfold vR;split
  . rename_i k h
    rw [pQ] at h;obtain⟨hk,he,hn⟩:=h;refine .inr ⟨k,rfl,hk,fun x hx=>?_⟩;obtain⟨j,hj,rfl⟩:=jX hx;have:=hn j (by simp at hj;omega);simpa using this
  rename_i h;rw [pK] at h;refine .inl ⟨rfl,?_⟩;rw [nC];intro x hx;simp [h x hx]
theorem tT {p:α->Bool} {l:List α} {k:Nat} (h:k<l.length)(hh:∀x∈l.take k,p x=false)(e:p l[k]=false):∀x∈l.take (k+1),p x=false:=by
  rw [bR l k h];intro x hx;rcases bN.1 hx with h1 | h1
  . exact hh x h1
  simp at h1;subst h1;exact e
theorem aGf (f:α->D)(l:List α)(rest:List D)(i:Nat)(x:α)(h:i<l.length):List.take i (l.map f++rest)++f x::List.drop (i+1) (l.map f++rest)=(l.set i x).map f++rest:=by
  rw [<- iM f l rest i x h];simp
theorem aL9 (f:α->D)(l:List α)(rest:List D)(n:Nat)(h:n=l.length):List.drop n (l.map f++rest)=rest:=by
  subst h;rw [List.drop_append_of_le_length (by simp),uC (by simp)];rfl
theorem tW {f:α->D} (h:∀a,(f a).cells= [f a])(l:List α):(l.map f).flatMap D.cells=l.map f:=by
  induction l with
  | nil=>rfl
  | cons a l ih=>simp only [cK,gC,h a,ih];rfl
def kp {α:Type} (p:α->Bool)(l:List α)(j:Nat):List α:=(l.take j).filter fun x=> !p x
def ar {α:Type} (p:α->Bool)(l:List α)(j:Nat):List α:=kp p l j++l.drop (kp p l j).length
theorem Uu (p:α->Bool)(l:List α)(j:Nat)(h:j<=l.length):(kp p l j).length<=j:=by
  unfold kp;have:=kB (fun x=> !p x) (l.take j);rw [bF] at this;omega
theorem aU8 (p:α->Bool)(l:List α)(j:Nat):(kp p l j).length<=l.length:=by
  unfold kp;have:=kB (fun x=> !p x) (l.take j);rw [bF] at this;omega
theorem aBk (p:α->Bool)(l:List α)(j:Nat)(h:j<l.length):kp p l (j+1)=kp p l j++if p l[j]=true then [] else [l[j]]:=by
  unfold kp;rw [bR l j h,fS,gN];by_cases e:p l[j]=true <;> simp [e]
theorem Rj (p:α->Bool)(l:List α)(j:Nat):(ar p l j).length=l.length:=by
  unfold ar;have:=aU8 p l j;rw [bA,dD];omega
theorem aHo (p:α->Bool)(l:List α)(j:Nat)(h:j<l.length):(ar p l j)[j]'(by rw [Rj];exact h)=l[j]:=by
  have hk:=Uu p l j (by omega);unfold ar;rw [uM (by omega),List.getElem_drop];congr 1;omega
theorem zQ (p:α->Bool)(l:List α)(j:Nat)(h:j<l.length)(e:p l[j]=true):ar p l (j+1)=ar p l j/\kp p l (j+1)=kp p l j:=by
  have:=aBk p l j h;rw [aJ e,gO] at this;exact⟨by unfold ar;rw [this],this⟩
theorem Gr (p:α->Bool)(l:List α)(j:Nat)(h:j<l.length)(e:p l[j]=false):(ar p l j).set (kp p l j).length l[j]=ar p l (j+1)/\(kp p l (j+1)).length=(kp p l j).length+1:=by
  have hs:=aBk p l j h;have hk:=Uu p l j (by omega);rw [aD (by simp [e])] at hs;refine⟨?_,by rw [hs];simp⟩;unfold ar;rw [hs,bA,uJ,nF _ _ (aX _),lU,bU];congr 1;rw [xM (by omega)];rfl
theorem aJ5 (p:α->Bool)(l:List α)(k:Nat)(h:k<l.length)(hh:∀x∈l.take k,p x=false)(e:p l[k]=true):ar p l (k+1)=l/\(kp p l (k+1)).length=k:=by
  have h1:kp p l k=l.take k:=by
    unfold kp;rw [nC];intro x hx;simp [hh x hx]
  have h2:=(zQ p l k h e).2;unfold ar;rw [h2,h1,bF,jZ (by omega)];exact⟨fB k l,rfl⟩
theorem Jf {p:α->Bool} {l:List α} (h:¬vR p l= -1):∃k:Nat,vR p l=k/\ar p l (k+1)=l/\(kp p l (k+1)).length=k/\k<l.length:=by
  unfold vR at *;split at h
  . rename_i k hf
    rw [pQ] at hf;obtain⟨hk,he,hn⟩:=hf;have hh:∀x∈l.take k,p x=false:=fun x hx=>by
      obtain⟨j,hj,rfl⟩:=jX hx;have:=hn j (by simp at hj;omega);simpa using this
    obtain⟨a,b⟩:=aJ5 p l k hk hh he;exact⟨k,rfl,a,b,hk⟩
  exact absurd rfl h
theorem pC {l:List α} {x:α} (h:l[m]?=some x):m<l.length:=(aN.1 h).1
theorem aM {l:List α} {x:α} (h:l[m]?=some x)(a:α):(l.set m a)[m]?=some a:=by
  rw [bZ,aJ rfl,aJ (pC h)]
theorem gW {l:List α} {x:α} (h:l[m]?=some x)(a:α)(r:List α):(l.set m a++r)[m]?=some a:=by
  rw [bB (by rw [cE];exact pC h),aM h]
theorem eT {l:List α} {x:α} (h:l[m]?=some x)(r:List α):(l++r)[m]?=some x:=by
  rw [bB (pC h)];exact h
theorem iJ {l:List α} {x:α} (h:l[m]?=some x)(a b:α)(r:List α):(l.set m a++r).set m b=l.set m b++r:=by
  rw [List.set_append_left _ _ (by rw [cE];exact pC h),aL]
theorem fX {l:List α} {x:α} (h:l[m]?=some x)(b:α)(r:List α):(l++r).set m b=l.set m b++r:=by
  rw [List.set_append_left _ _ (pC h)]
theorem fG (l:List α)(m:Nat)(a b:α)(r:List α):(l.set m a++b::r)[l.length]?=some b:=by
  rw [bT (by rw [cE];omega),cE,lU];rfl
theorem dA (l:List α)(m:Nat)(a b c:α)(r:List α):(l.set m a++b::r).set l.length c=l.set m a++c::r:=by
  rw [nF _ _ (by rw [cE];omega),cE,lU];rfl
theorem eH (l:List α)(b:α)(r:List α):(l++b::r)[l.length]?=some b:=by
  rw [bT (by omega),lU];rfl
theorem cM (l:List α)(b c:α)(r:List α):(l++b::r).set l.length c=l++c::r:=by
  rw [nF _ _ (by omega),lU];rfl
theorem eY (l:List α)(m:Nat)(a b b':α)(r:List α):(l.set m a++b::b'::r)[l.length+1]?=some b':=by
  rw [bT (by rw [cE];omega),cE,mX];rfl
theorem cY (l:List α)(m:Nat)(a b b' c:α)(r:List α):(l.set m a++b::b'::r).set (l.length+1) c=l.set m a++b::c::r:=by
  rw [nF _ _ (by rw [cE];omega),cE,mX];rfl
theorem bH (l r:List α)(k:Nat):(l++r)[l.length+k]?=r[k]?:=by
  rw [bT (by omega),mX]
theorem aV (l r:List α)(k:Nat)(c:α):(l++r).set (l.length+k) c=l++r.set k c:=by
  rw [nF _ _ (by omega),mX]
theorem aK (l r:List α):(l++r)[l.length]?=r[0]?:=bH l r 0
theorem aH (l r:List α)(c:α):(l++r).set l.length c=l++r.set 0 c:=aV l r 0 c
theorem eX (l:List α)(m:Nat)(a b b' b2:α)(r:List α):(l.set m a++b::b'::b2::r)[l.length+2]?=some b2:=by
  rw [bT (by rw [cE];omega),cE,mX];rfl
theorem cX (l:List α)(m:Nat)(a b b' b2 c:α)(r:List α):(l.set m a++b::b'::b2::r).set (l.length+2) c=l.set m a++b::b'::c::r:=by
  rw [nF _ _ (by rw [cE];omega),cE,mX];rfl
section
variable {f:α->List D}{k:Nat}
theorem dE(hf:∀a,(f a).length=k)(l:List α):(l.flatMap f).length=l.length * k:=by
  induction l with
  | nil=>simp
  | cons a l ih=>simp only [gC,bA,ih,hf,bO,cW,Nat.one_mul];omega
theorem sV(l:List α)(i:Nat)(h:i<l.length):l.flatMap f=(l.take i).flatMap f++(f l[i]++(l.drop (i+1)).flatMap f):=by
  have:l=l.take i++(l[i]::l.drop (i+1)):=by rw [<- xM h,fB]
  conv=>lhs;rw [this]
  rw [gP,gC]
theorem oV(hf:∀a,(f a).length=k)(l:List α)(i:Nat)(h:i<l.length):((l.take i).flatMap f).length=i * k:=by
  rw [dE hf,bF,jZ (by omega)]
theorem Nt(hf:∀a,(f a).length=k)(l:List α)(rest:List D)(i:Nat)(h:i<l.length):((l.flatMap f++rest).drop (i * k)).take k=f l[i]:=by
  rw [sV l i h,bU,<- oV hf l i h,xA,bU,<- hf l[i],xJ]
theorem My(hf:∀a,(f a).length=k)(l:List α)(rest:List D)(i j:Nat)(h:i<l.length)(hj:j<k):(l.flatMap f++rest)[i * k+j]?=(f l[i])[j]?:=by
  rw [sV l i h,bU,<- oV hf l i h,bT (by omega),mX,bU,bB (by rw [hf];exact hj)]
theorem aAx(hf:∀a,(f a).length=k)(l:List α)(rest:List D)(i:Nat)(h:i<l.length):yX true k ((l.flatMap f++rest).drop (i * k))=some (.agg (f l[i])):=by
  have hle:k<=((l.flatMap f++rest).drop (i * k)).length:=by
    have:=congrArg List.length (Nt hf l rest i h);rw [bF,hf] at this;omega
  simp only [yX,aU,hle,Nt hf l rest i h]
theorem Vu(hf:∀a,(f a).length=k)(l:List α)(rest:List D)(i j:Nat)(h:i<l.length)(hj:j<k):yX false 1 ((l.flatMap f++rest).drop (i * k+j))=(f l[i])[j]?:=by
  rw [<- My hf l rest i j h hj];simp only [yX,gL,bI,pY]
theorem nX(A B C X:List D)(h:X.length=B.length):dU (A++(B++C)) A.length X=A++(X++C):=by
  unfold dU;rw [xJ,h,<- bU A B C,<- bA,xA,bU]
theorem Gx(hf:∀a,(f a).length=k)(l:List α)(rest:List D)(i:Nat)(x:α)(h:i<l.length):dU (l.flatMap f++rest) (i * k) (f x)=(l.set i x).flatMap f++rest:=by
  have e1:(l.set i x).flatMap f=(l.take i).flatMap f++(f x++(l.drop (i+1)).flatMap f):=by
    rw [Nn,aJ h,gP,gC]
  rw [e1,sV l i h,<- oV hf l i h,bU,bU,nX _ _ _ _ (by rw [hf,hf]),bU,bU]
theorem cQ {d:α->D} (hd:∀a,(d a).cells=f a)(l:List α):(l.map d).flatMap D.cells=l.flatMap f:=by
  induction l with
  | nil=>rfl
  | cons a l ih=>simp only [cK,gC,hd a,ih]
end
variable {rr:Option Nat} {dfr:List Deferred}
section
variable {P:Program}
theorem zs (n:Nat) (h:∀K':St->Prop,(∀s,pV P c all r2 s K->K' s)->pV P c all (r.take n) st K')(hd:r.drop n=r2:=by simp only [List.drop] <;> rfl):pV P c all r st K:=aB9 n (by rw [hd];exact h)
theorem nI (n:Nat) {k2:List DK} (h:∀K':St->Prop,(∀s,kX P c all r2 k2 s K->K' s)->kX P c all (r.take n) (ks.take n) st K')(hks:n<=ks.length:=by simp)(hd:r.drop n=r2:=by simp only [List.drop] <;> rfl)(hd2:ks.drop n=k2:=by simp only [List.drop] <;> rfl):kX P c all r ks st K:=Yg n hks (by rw [hd,hd2];exact h)
theorem zq {S:α->St} {p:α->Prop} {m:α->Nat} {x:α} (y:α)(hp:p y)(hm:m y<m x)(hl:zM loc.length s.env l)(hS:S y=St.mk' n l loc obj:=by exact rfl)(hn:s.n=n:=by exact rfl)(hloc:loc<+:s.loc:=by simp)(hobj:s.obj=obj:=by simp):Bu S p m x Q .normal s:=
  fP y hp hm (by rw [hS];exact eG hn hl hloc hobj)
theorem zf {f:FuncId} {fn:Func} {cd:Code} {Q:D->List (List D)->Prop} {rs:List ResultVar} (hf:P.funcs[f]?=some fn)(h:AWP P cd (aG P rs Q) (St.mk' n l [] σ))
    (hn : fn.ntmps = n := by exact rfl) (hrs : fn.results = rs.toArray := by exact rfl) (hb : fn.body = some cd := by exact rfl) (hl : sU 0 args = l := by simp only [sU] <;> rfl) (hname : (fn.name != "runtime.NumGoroutine") = true := by exact rfl) (hle : args.length ≤ n := by simp) : Ct P f args σ Q := aI4 hf hb hname hn hrs hle (by rw [hl]; exact h)
theorem zr(c:Cfg) {id:Nat} (h:∀(all:List Oper) (K:St->Prop),(∀s,eV rr dfr P y Q s->K s)->pV P c all ops' st K)(he:ops.map sQ=ops':=by simp only [nZ,qP] <;> rfl):eV rr dfr P (.seq (.region id ops.toArray false) y) Q st:=
  aE (sY he fun all _ K hK=>h all K fun s hs=>hK s (dV hs))
theorem mE(c:Cfg) {id:Nat} (h:∀(all:List Oper),(∀j,aO all j=aO ops j)->∀(K:St->Prop),(∀s,eV rr dfr P y Q s->K s)->pV P c all ops' st K)(he:ops.map sQ=ops':=by simp only [nZ,qP] <;> rfl):eV rr dfr P (.seq (.region id ops.toArray false) y) Q st:=
  aE (sY he fun all ha K hK=>h all ha K fun s hs=>hK s (dV hs))
theorem zt(c:Cfg) {id:Nat} (h:∀(all:List Oper) (K:St->Prop),(∀s,Q .normal s->K s)->pV P c all ops' st K)(he:ops.map sQ=ops':=by simp only [nZ,qP] <;> rfl):eV rr dfr P (.region id ops.toArray false) Q st:=
  sY he fun all _ K hK=>h all K hK
theorem ztg(c:Cfg) {id:Nat} (h:∀(all:List Oper),(∀j,aO all j=aO ops j)->∀(K:St->Prop),(∀s,Q .normal s->K s)->pV P c all ops' st K)(he:ops.map sQ=ops':=by simp only [nZ,qP] <;> rfl):eV rr dfr P (.region id ops.toArray false) Q st:=
  sY he fun all ha K hK=>h all ha K hK
theorem bC {id:Nat} (h:∀(all:List Oper) (K:St->Prop),(∀s,eV rr dfr P y Q s->K s)->pV P ⟨[], [], [], [], []⟩ all ops' st K)(he:ops.map sQ=ops':=by simp only [nZ,qP] <;> rfl):eV rr dfr P (.seq (.region id ops.toArray false) y) Q st:=zr _ h he
theorem qF {id:Nat} (h:∀(all:List Oper) (K:St->Prop),(∀s,Q .normal s->K s)->pV P ⟨[], [], [], [], []⟩ all ops' st K)(he:ops.map sQ=ops':=by simp only [nZ,qP] <;> rfl):eV rr dfr P (.region id ops.toArray false) Q st:=zt _ h he
theorem zd(c:Cfg)(ks:List DK) {id:Nat} (h:∀(all:List Oper),(∀j,aO all j=aO ops j)->∀(K:St->Prop),(∀s,eV rr dfr P y Q s->K s)->kX P c all ops' ks st K)
    (he:ops.map sQ=ops':=by simp only [nZ,qP] <;> rfl) (hm:P.follows .mixedOrders=true:=by kernel_rfl) (hok:Jn c ops ks=true:=by kernel_rfl):eV rr dfr P (.seq (.region id ops.toArray true) y) Q st:=
  aE (Mr ks hm hok he fun all ha K hK=>h all ha K fun s hs=>hK s (dV hs))
theorem ze(c:Cfg)(ks:List DK) {id:Nat} (h:∀(all:List Oper),(∀j,aO all j=aO ops j)->∀(K:St->Prop),(∀s,Q .normal s->K s)->kX P c all ops' ks st K)
    (he:ops.map sQ=ops':=by simp only [nZ,qP] <;> rfl) (hm:P.follows .mixedOrders=true:=by kernel_rfl) (hok:Jn c ops ks=true:=by kernel_rfl):eV rr dfr P (.region id ops.toArray true) Q st:=
  Mr ks hm hok he fun all ha K hK=>h all ha K hK
theorem zk(K:List Nat) {l2:List (Nat×Slot)} {c:Code} (h:eV rr dfr P c Q (St.mk' n l2 loc obj))(hl:Cs K l=l2:=by simp only [aFp,Lc,Oq,Nm,aP6,aQs,Nat.reduceBEq] <;> rfl):eV rr dfr P c Q (St.mk' n l loc obj):=aK6 K hl h
theorem zg {d:Option Tmp} {op:Op} {ty:TypeId} {pos:String} {after:Array Edge} {j:Nat} {b want:Bool} (hg:aO all j=some t)(h1:∀K':St->Prop,(∀s,pV P c all r s K->K' s)->Xy d st/\iQ P c d op st K')
    (hs:st.env t= .d (.v (.bool b)):=by simp <;> rfl) (hb:b=want:=by exact rfl):pV P c all (⟨d,op,ty,pos,after,some (j,want)⟩::r) st K:=aSn hg hs hb h1
theorem zi {a b:Code} {s:Slot} (h:Ao s.toD (eV rr dfr P a Q (St.mk' n ((t,.d (.bool true))::l) loc obj)) (eV rr dfr P b Q (St.mk' n ((t,.d (.bool false))::l) loc obj)))(hs:eE l t=s:=by simp <;> rfl):eV rr dfr P (.cond (.tmp t) a b) Q (St.mk' n l loc obj):=aAa hs h
theorem cN {f:FuncId} {y:List (List D)} {x:D} {Q:D->List (List D)->Prop} (h:Ct P f args σ (fun r τ=>r=x/\τ=y))(k:Q x y)(hl:nW args' args:=by first | exact iF rfl | (refine iF ?_;simp;done) | (refine iF ?_;simp;rfl) | (simp [nW,Im];done)):Ct P f args' σ Q:=
  (h.of_le hl rfl).mono fun r τ ⟨h1,h2⟩=>by rw [h1,h2];exact k
theorem Ma {f:FuncId} {Q Q':D->List (List D)->Prop} (h:Ct P f args σ Q)(k:∀r τ,Q r τ->Q' r τ)(hl:nW args' args:=by first | exact iF rfl | (refine iF ?_;simp;done) | (refine iF ?_;simp;rfl) | (simp [nW,Im];done)):Ct P f args' σ Q':=
  (h.of_le hl rfl).mono k
theorem At {f:FuncId} {r:D} {k:D->Prop} (h:∀σ,Ct P f args σ (fun r' τ=>r'=r/\τ=σ))(hk:k r)(hl:nW args' args:=by first | exact iF rfl | (refine iF ?_;simp;done) | (refine iF ?_;simp;rfl) | (simp [nW,Im];done)):∃r,(∀σ,Ct P f args' σ fun r' σ'=>r'=r/\σ'=σ)/\k r:=
  ⟨r,fun σ=>(h σ).of_le hl rfl,hk⟩
theorem zdr {f:FuncId} {r:D} {k:D->Prop} (h:Ct P f args σ (fun r' τ=>r'=r/\τ=σ))(hk:k r)(hl:nW args' args:=by first | exact iF rfl | (refine iF ?_;simp;done) | (refine iF ?_;simp;rfl) | (simp [nW,Im];done)):∃r,(Ct P f args' σ fun r' σ'=>r'=r/\σ'=σ)/\k r:=
  ⟨r,h.of_le hl rfl,hk⟩
theorem zdd {f:FuncId} {σ0:List (List D)} {r:D} {k:D->List (List D)->Prop} (h:Ct P f args σ (fun r' τ=>r'=r/\τ=σ0))(hk:k r σ0)(hl:nW args' args:=by first | exact iF rfl | (refine iF ?_;simp;done) | (refine iF ?_;simp;rfl) | (simp [nW,Im];done)):∃r σ0,(Ct P f args' σ fun r' σ'=>r'=r/\σ'=σ0)/\k r σ0:=
  ⟨r,σ0,h.of_le hl rfl,hk⟩
theorem zI {a b:Code} {s:Slot} (h1:x=true->eV rr dfr P a Q (St.mk' n ((t,.d (.bool true))::l) loc obj))(h2:x=false->eV rr dfr P b Q (St.mk' n ((t,.d (.bool false))::l) loc obj))
    (hs:eE l t=s:=by simp <;> rfl) (hb:s= .d (.v (.bool x)):=by exact rfl):eV rr dfr P (.cond (.tmp t) a b) Q (St.mk' n l loc obj):=aAa hs (by rw [hb];exact⟨h1,h2⟩)
theorem zb {s:Slot} (t:Nat)(h1:x=true->pV P c all r (St.mk' n ((t,.d (.bool true))::l) loc obj) K)(h2:x=false->pV P c all r (St.mk' n ((t,.d (.bool false))::l) loc obj) K)
    (hs:eE l t=s:=by simp <;> rfl) (hb:s= .d (.v (.bool x)):=by exact rfl):pV P c all r (St.mk' n l loc obj) K:=aJx t hs (by rw [hb];exact⟨h1,h2⟩)
theorem zbD {s:Slot} (t:Nat)(h1:x=true->kX P c all r ks (St.mk' n ((t,.d (.bool true))::l) loc obj) K)(h2:x=false->kX P c all r ks (St.mk' n ((t,.d (.bool false))::l) loc obj) K)
    (hs:eE l t=s:=by simp <;> rfl) (hb:s= .d (.v (.bool x)):=by exact rfl):kX P c all r ks (St.mk' n l loc obj) K:=aDb t hs (by rw [hb];exact⟨h1,h2⟩)
theorem zA (h:eV rr dfr P y Q s):eV rr dfr P .skip (tO rr dfr P y Q) s:=wG h
theorem zB (h:eV rr dfr P y Q s):rA i (tO rr dfr P y Q) .normal s:=h
theorem nM (h:eV rr dfr P y Q s):eV rr dfr P .skip (rA i (tO rr dfr P y Q)) s:=wG h
theorem Ry {x:Code} (h:eV rr dfr P x (rA i (tO rr dfr P y Q)) s):eV rr dfr P (.seq (.block i x) y) Q s:=aE (aR h)
theorem kO {x:Code} (h:eV rr dfr P x (rA i (tO rr dfr P y Q)) s):eV rr dfr P .skip (tO rr dfr P (.seq (.block i x) y) Q) s:=wG (Ry h)
theorem zE {S:α->St} {p:α->Prop} {m:α->Nat} {x:α} {y1:Code} (h:eV rr dfr P y Q s):eV rr dfr P (.exit i) (tO rr dfr P y1 (Bu S p m x (rA i (tO rr dfr P y Q)))) s:=Cp (Ba (Cz (xR h)))
@[simp] theorem aV0 :tO rr dfr P y Q .ret s=Q .ret s:=rfl
@[simp] theorem aVk :rA i Q .ret s=Q .ret s:=rfl
@[simp] theorem aV2 {S:α->St} {p:α->Prop} {m:α->Nat} {x:α} :Bu S p m x Q .ret s=Q .ret s:=rfl
@[simp] theorem aV6 {S:α->St} {p:α->Prop} :aVu S p Q .ret s=Q .ret s:=rfl
end
end Go.Vm
