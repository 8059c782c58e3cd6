import Derived.Test.YtbdjepeabjangaaGreatVmA
import Derived.WalkKit
import Derived.MapKept
set_option linter.all false
namespace Go.Vm
open Go
variable {bs bs' p:List Nat}{w:World}{x:Value}
inductive D where
 | any
 | v (x:Value)
 | sl (own:Bool) (es:List D)
 | agg (cs:List D)
 | tup (cs:List D)
 | adr (cs:List D)
 | ref (n off:Nat)
 | clo (f:Fn) (first caps:List D)
 | ifc (t:TypeId) (d:D)
 | xs (k:Nat) (es:List D)
 | xl (n:Nat)
 | slo (n a len cap:Nat)
 | mref (n:Nat)
 | mp (n:Nat) (kd:TypeDesc) (clock:Nat) (kvs:List (Value×Nat×D))
 | mit (n since:Nat) (seen:List Nat) (last:Nat)
 | mo (kd:TypeDesc) (clock:Nat) (kvs:List (Value×Nat×D))
 | mz
 deriving Inhabited
abbrev D.int(n:Int):D:= .v (.int .i64 n)
abbrev D.bool(b:Bool):D:= .v (.bool b)
abbrev D.str(s:ByteArray):D:= .v (.string s)
def D.ncells:D->Nat
 | .agg cs=>cs.length
 | _=>1
def D.cells:D->List D
 | .agg cs=>cs
 | d=> [d]
abbrev Mem:=Nat->Nat->Option Value
def Mem.le(M M':Mem):Prop:=∀b o c,M b o=some c->M' b o=some c
inductive R(M:Mem)(bs:List Nat):D->Value->Prop
 | any (x:Value):R M bs .any x
 | v (x:Value) (h:x.oneCell'=true):R M bs (.v x) x
 | nil (o:Bool):R M bs (.sl o []) (.slice none 0 0)
 | emp (o:Bool) (a:Addr) (cap:Nat) (hm:cap<=maxLen):R M bs (.sl o []) (.slice (some a) 0 cap)
 | sl (o : Bool) (es : List D) (b off n cap k : Nat) (vs : List Value) (hl : vs.length = es.length) (hn : n = es.length) (hk : 0 < k) (hc : n <= cap) (hm : cap <= maxLen)
   (hr:∀(i:Nat) (d:D) (x:Value),es[i]?=some d->vs[i]?=some x->R M bs d x)
   (hs:∀(i:Nat) (d:D),es[i]?=some d->d.ncells=k)
   (hx:∀(i:Nat) (x:Value),vs[i]?=some x->x.cells.size=k/\∀(j:Nat) (c:Value),x.cells[j]?=some c->c.oneCell'=true/\M b (off+(i * k+j))=some c):
   R M bs (.sl o es) (.slice (some ⟨b,off,none⟩) n cap)
 | agg (cs : List D) (vs : Array Value) (hl : vs.size = cs.length) (hr : ∀ (i : Nat) (d : D) (x : Value), cs[i]? = some d -> vs[i]? = some x -> R M bs d x)
   (h1:∀(i:Nat) (x:Value),vs[i]?=some x->x.oneCell'=true):R M bs (.agg cs) (.agg vs)
 | tup (cs:List D) (vs:Array Value) (hl:vs.size=cs.length) (hr:∀(i:Nat) (d:D) (x:Value),cs[i]?=some d->vs[i]?=some x->R M bs d x):R M bs (.tup cs) (.tuple vs)
 | adr (cs : List D) (b off : Nat) (vs : List Value) (hl : vs.length = cs.length) (hr : ∀ (i : Nat) (d : D) (x : Value), cs[i]? = some d -> vs[i]? = some x -> R M bs d x)
   (hx:∀(i:Nat) (x:Value),vs[i]?=some x->x.oneCell'=true/\M b (off+i)=some x):R M bs (.adr cs) (.pointer (some ⟨b,off,none⟩))
 | ref (n off b:Nat) (h:bs[n]?=some b):R M bs (.ref n off) (.pointer (some ⟨b,off,none⟩))
 | clo (f : Fn) (first caps : List D) (v1 v2 : Array Value) (l1 : v1.size = first.length) (l2 : v2.size = caps.length)
   (h1:∀(i:Nat) (d:D) (x:Value),first[i]?=some d->v1[i]?=some x->R M bs d x)
   (h2:∀(i:Nat) (d:D) (x:Value),caps[i]?=some d->v2[i]?=some x->R M bs d x):R M bs (.clo f first caps) (.func f v1 v2)
 | ifc (t:TypeId) (d:D) (x:Value) (h:R M bs d x):R M bs (.ifc t d) (.iface t x)
 | xs (k:Nat) (es:List D) (a:Option Addr) (n cap:Nat) (hn:n=es.length) (hc:n<=cap) (hm:cap<=maxLen) (ha:a=none->n=0/\cap=0):R M bs (.xs k es) (.slice a n cap)
 | xl (a:Option Addr) (n cap:Nat) (hc:n<=cap) (hm:cap<=maxLen) (ha:a=none->n=0/\cap=0):R M bs (.xl n) (.slice a n cap)
 | slo (n a len cap:Nat) (x:Option Addr) (h:0<cap->∃b:Nat,bs[n]?=some b/\x=some ⟨b,a,none⟩) (hc:len<=cap) (hm:cap<=maxLen):R M bs (.slo n a len cap) (.slice x len cap)
 | mref (n b:Nat) (h:bs[n]?=some b):R M bs (.mref n) (.map (some b))
 | mp (n:Nat) (kd:TypeDesc) (clock b:Nat) (kvs:List (Value×Nat×D)) (h:bs[n]?=some b):R M bs (.mp n kd clock kvs) (.map (some b))
 | mit (n since:Nat) (seen:List Nat) (last b:Nat):R M bs (.mit n since seen last) (.pointer (some ⟨b,0,none⟩))
 | mo (kd:TypeDesc) (clock b:Nat) (kvs:List (Value×Nat×D)):R M bs (.mo kd clock kvs) (.map (some b))
 | mz (b:Nat):R M bs .mz (.map (some b))
theorem R.mono {M M':Mem} (hM:M.le M')(hb:∀(n b:Nat),bs[n]?=some b->bs'[n]?=some b) {d:D} (h:R M bs d x):R M' bs' d x:=by
 induction h with
 | any x=>exact .any x
 | v x h=>exact .v x h
 | nil o=>exact .nil o
 | emp o a cap hm=>exact .emp o a cap hm
 | sl o es b off n cap k vs hl hn hk hc hm hr hs hx ih=>exact .sl o es b off n cap k vs hl hn hk hc hm ih hs (fun i x h=>⟨(hx i x h).1,fun j c h'=>⟨((hx i x h).2 j c h').1,hM _ _ _ ((hx i x h).2 j c h').2⟩⟩)
 | agg cs vs hl hr h1 ih=>exact .agg cs vs hl ih h1
 | tup cs vs hl hr ih=>exact .tup cs vs hl ih
 | adr cs b off vs hl hr hx ih=>exact .adr cs b off vs hl ih (fun i x h=>⟨(hx i x h).1,hM _ _ _ (hx i x h).2⟩)
 | ref n off b h=>exact .ref n off b (hb n b h)
 | clo f first caps v1 v2 l1 l2 h1 h2 ih1 ih2=>exact .clo f first caps v1 v2 l1 l2 ih1 ih2
 | ifc t d x h ih=>exact .ifc t d x ih
 | xs k es a n cap hn hc hm ha=>exact .xs k es a n cap hn hc hm ha
 | xl a n cap hc hm ha=>exact .xl a n cap hc hm ha
 | slo n a len cap x h hc hm=>exact .slo n a len cap x (fun h0=>by obtain⟨b,h1,h2⟩:=h h0;exact⟨b,hb n b h1,h2⟩) hc hm
 | mref n b h=>exact .mref n b (hb n b h)
 | mp n kd clock b kvs h=>exact .mp n kd clock b kvs (hb n b h)
 | mit n since seen last b=>exact .mit n since seen last b
 | mo kd clock b kvs=>exact .mo kd clock b kvs
 | mz b=>exact .mz b
def D.s1:D->D
 | .sl _ es=> .sl false es
 | .xs _ es=> .xl es.length
 | .mp n _ _ _=> .mref n
 | .mit _ _ _ _=> .any
 | .mo _ _ _=> .mz
 | d=>d
def D.s2:D->D
 | .agg cs=> .agg (cs.map D.s1)
 | d=>d.s1
def D.strip:D->D
 | .tup cs=> .tup (cs.map D.s2)
 | d=>d.s2
inductive Holder where
 | slot (t:Nat)
 | loc (n:Nat)
 | obj (n:Nat)
 deriving DecidableEq
abbrev jK:=Holder×List Nat
def Rr(w:World)(M:Mem)(X:Nat->Option jK)(t:jK)(es:List D)(v:Value):Prop:=
 (∃a n,v= .slice a n 0)\/
 ∃b n cap k cur E,v= .slice (some ⟨b,0,none⟩) n cap/\es≠ []/\X b=some t/\w.heap[b]?=some (.cells cur E (0,0))/\0<k/\cur.size=cap * k/\n=es.length/\n<=cap/\cap<=maxLen/\
  (∀o,n * k<=o->M b o=none)/\(∀(i:Nat) (d:D),es[i]?=some d->d.ncells=k)
def D.flat:D->Bool
 | .sl own _=> !own
 | .agg _ | .tup _ | .xs _ _ | .mp _ _ _ _ | .mit _ _ _ _ | .mo _ _ _=>false
 | _=>true
def D.arr(d:D):Bool:=d.cells.all D.flat
def Ou(w:World)(M:Mem)(bs:List Nat)(X:Nat->Option jK)(t:jK)(k:Nat)(es:List D)(v:Value):Prop:=
 (es= []/\∃a,v= .slice a 0 0)\/
 ∃b n cap cur E,v= .slice (some ⟨b,0,none⟩) n cap/\X b=some t/\w.heap[b]?=some (.cells cur E (0,0))/\0<k/\cur.size=cap * k/\n=es.length/\n<=cap/\cap<=maxLen/\
  (∀o,M b o=none)/\(∀(o:Nat) (c:Value),cur[o]?=some c->c.oneCell'=true)/\(∀(i:Nat) (d:D),es[i]?=some d->d.ncells=k/\d.arr=true)/\
  ∀(i:Nat) (d:D) (j:Nat) (e:D),es[i]?=some d->d.cells[j]?=some e->∃x,cur[i * k+j]?=some x/\R M bs e x
def aNp(w:World)(M:Mem)(bs:List Nat)(X:Nat->Option jK)(t:jK)(n:Nat)(kd:TypeDesc)(clock:Nat)(kvs:List (Value×Nat×D))(v:Value):Prop:=
 ∃b es,v= .map (some b)/\bs[n]?=some b/\X b=some t/\w.heap[b]?=some (.map es clock)/\(∀o,M b o=none)/\es.size=kvs.length/\(MapKept.Stamped es clock/\∀x∈es.toList,MapKept.IsKey kd x.key)/\
  ∀(i:Nat) (k:Value) (s:Nat) (d:D) (e:MapEntry),kvs[i]?=some (k,s,d)->es[i]?=some e->e.key=k/\e.born=s/\R M bs d e.val/\d.arr=true
def aK2(w:World)(M:Mem)(bs:List Nat)(X:Nat->Option jK)(t:jK)(kd:TypeDesc)(clock:Nat)(kvs:List (Value×Nat×D))(v:Value):Prop:=
 ∃b es,v= .map (some b)/\X b=some t/\w.heap[b]?=some (.map es clock)/\(∀o,M b o=none)/\es.size=kvs.length/\(MapKept.Stamped es clock/\∀x∈es.toList,MapKept.IsKey kd x.key)/\
  ∀(i:Nat) (k:Value) (s:Nat) (d:D) (e:MapEntry),kvs[i]?=some (k,s,d)->es[i]?=some e->e.key=k/\e.born=s/\R M bs d e.val/\d.arr=true
def aL6(w:World)(M:Mem)(bs:List Nat)(X:Nat->Option jK)(t:jK)(n since:Nat)(seen:List Nat)(last:Nat)(v:Value):Prop:=
 ∃b bm,v= .pointer (some ⟨b,0,none⟩)/\bs[n]?=some bm/\X b=some t/\w.heap[b]?=some (.mapIter (some bm) since seen.toArray last)/\(∀o,M b o=none)
inductive Own(w:World)(M:Mem)(bs:List Nat)(X:Nat->Option jK)(h:Holder):List Nat->D->Value->Prop
 | sl (p:List Nat) (es:List D) (v:Value) (ho:Rr w M X (h,p) es v):Own w M bs X h p (.sl true es) v
 | xs (p:List Nat) (k:Nat) (es:List D) (v:Value) (ho:Ou w M bs X (h,p) k es v):Own w M bs X h p (.xs k es) v
 | mp (p:List Nat) (n:Nat) (kd:TypeDesc) (clock:Nat) (kvs:List (Value×Nat×D)) (v:Value) (ho:aNp w M bs X (h,p) n kd clock kvs v):Own w M bs X h p (.mp n kd clock kvs) v
 | mit (p:List Nat) (n since:Nat) (seen:List Nat) (last:Nat) (v:Value) (ho:aL6 w M bs X (h,p) n since seen last v):Own w M bs X h p (.mit n since seen last) v
 | mo (p:List Nat) (kd:TypeDesc) (clock:Nat) (kvs:List (Value×Nat×D)) (v:Value) (ho:aK2 w M bs X (h,p) kd clock kvs v):Own w M bs X h p (.mo kd clock kvs) v
 | agg (p:List Nat) (cs:List D) (vs:Array Value) (hr:∀(i:Nat) (d:D) (x:Value),cs[i]?=some d->vs[i]?=some x->Own w M bs X h (p++ [i]) d x):Own w M bs X h p (.agg cs) (.agg vs)
 | tup (p:List Nat) (cs:List D) (vs:Array Value) (hr:∀(i:Nat) (d:D) (x:Value),cs[i]?=some d->vs[i]?=some x->Own w M bs X h (p++ [i]) d x):Own w M bs X h p (.tup cs) (.tuple vs)
 | flat (p:List Nat) (d:D) (v:Value) (hf:d.flat=true):Own w M bs X h p d v
theorem Own.move {w':World} {M M':Mem} {X X':Nat->Option jK} {h h':Holder} {d:D} {v:Value} (ho:Own w M bs X h p d v)(hMM:M.le M')(hbb:∀(n b:Nat),bs[n]?=some b->bs'[n]?=some b):
  ∀(p':List Nat),(∀(b:Nat) (q:List Nat),X b=some (h,p++q)->w'.heap[b]?=w.heap[b]?/\(∀o,M b o=none->M' b o=none)/\X' b=some (h',p'++q))->Own w' M' bs' X' h' p' d v:=by
 induction ho with
 | sl p es v ho=>
  intro p' hb;refine .sl p' es v ?_;rcases ho with ⟨a,n,rfl⟩ | ⟨b,n,cap,k,cur,E,rfl,hes,hX,hh,hk,hc,hn,hn2,hm,hM,hs⟩
  .exact .inl ⟨a,n,rfl⟩
  obtain⟨h1,h2,h3⟩:=hb b [] (by simpa using hX);exact .inr ⟨b,n,cap,k,cur,E,rfl,hes,by simpa using h3,by rw [h1];exact hh,hk,hc,hn,hn2,hm,fun o ho=>h2 o (hM o ho),hs⟩
 | xs p k es v ho =>
  intro p' hb;refine .xs p' k es v ?_;rcases ho with ho | ⟨b,n,cap,cur,E,rfl,hX,hh,hk,hc,hn,hn2,hm,hM,h1c,hs,hr⟩
  .exact .inl ho
  obtain⟨h1,h2,h3⟩:=hb b [] (by simpa using hX);exact .inr ⟨b,n,cap,cur,E,rfl,by simpa using h3,by rw [h1];exact hh,hk,hc,hn,hn2,hm,fun o=>h2 o (hM o),h1c,hs,fun i d j e a1 a2=>by
   obtain⟨x,x1,x2⟩:=hr i d j e a1 a2;exact⟨x,x1,x2.mono hMM hbb⟩⟩
 | mp p n kd clock kvs v ho =>
  intro p' hb;obtain⟨b,es,rfl,hbn,hX,hh,hM,hsz,hst,hr⟩:=ho;obtain⟨h1,h2,h3⟩:=hb b [] (by simpa using hX);exact .mp p' n kd clock kvs _ ⟨b,es,rfl,hbb n b hbn,by simpa using h3,by rw [h1];exact hh,fun o=>h2 o (hM o),hsz,hst,fun i k s d e a1 a2=>by
   obtain⟨r1,r2,r3,r4⟩:=hr i k s d e a1 a2;exact⟨r1,r2,r3.mono hMM hbb,r4⟩⟩
 | mit p n since seen last v ho=>
  intro p' hb;obtain⟨b,bm,rfl,hbn,hX,hh,hM⟩:=ho;obtain⟨h1,h2,h3⟩:=hb b [] (by simpa using hX);exact .mit p' n since seen last _ ⟨b,bm,rfl,hbb n bm hbn,by simpa using h3,by rw [h1];exact hh,fun o=>h2 o (hM o)⟩
 | mo p kd clock kvs v ho =>
  intro p' hb;obtain⟨b,es,rfl,hX,hh,hM,hsz,hst,hr⟩:=ho;obtain⟨h1,h2,h3⟩:=hb b [] (by simpa using hX);exact .mo p' kd clock kvs _ ⟨b,es,rfl,by simpa using h3,by rw [h1];exact hh,fun o=>h2 o (hM o),hsz,hst,fun i k s d e a1 a2=>by
   obtain⟨r1,r2,r3,r4⟩:=hr i k s d e a1 a2;exact⟨r1,r2,r3.mono hMM hbb,r4⟩⟩
 | agg p cs vs hr ih=>
  intro p' hb;refine .agg p' cs vs fun i d x h1 h2=>ih i d x h1 h2 (p'++ [i]) fun b q hX=>?_;have:=hb b (i::q) (by simpa using hX);simpa using this
 | tup p cs vs hr ih=>
  intro p' hb;refine .tup p' cs vs fun i d x h1 h2=>ih i d x h1 h2 (p'++ [i]) fun b q hX=>?_;have:=hb b (i::q) (by simpa using hX);simpa using this
 | flat p d v hf=>exact fun p' _=> .flat p' d v hf
theorem Own.keep {w':World} {M M':Mem} {X X':Nat->Option jK} {h:Holder} {d:D} {v:Value} (ho:Own w M bs X h p d v)(hMM:M.le M')(hbb:∀(n b:Nat),bs[n]?=some b->bs'[n]?=some b)
  (hb:∀(b:Nat) (q:List Nat),X b=some (h,q)->w'.heap[b]?=w.heap[b]?/\(∀o,M b o=none->M' b o=none)/\X' b=some (h,q)):Own w' M' bs' X' h p d v:=
 ho.move hMM hbb p fun b q hX=>hb b (p++q) hX
theorem R.s1 {M:Mem} {d:D} (h:R M bs d x):R M bs d.s1 x:=by
 cases h with
 | nil o=>exact .nil _
 | emp o a cap hm=>exact .emp _ a cap hm
 | sl o es b off n cap k vs hl hn hk hc hm hr hs hx=>exact .sl _ es b off n cap k vs hl hn hk hc hm hr hs hx
 | any x=>exact .any x
 | v x h=>exact .v x h
 | agg cs vs hl hr h1=>exact .agg cs vs hl hr h1
 | tup cs vs hl hr=>exact .tup cs vs hl hr
 | adr cs b off vs hl hr hx=>exact .adr cs b off vs hl hr hx
 | ref n off b h=>exact .ref n off b h
 | clo f first caps v1 v2 l1 l2 h1 h2=>exact .clo f first caps v1 v2 l1 l2 h1 h2
 | ifc t d x h=>exact .ifc t d x h
 | xs k es a n cap hn hc hm ha=>subst hn;exact .xl a _ cap hc hm ha
 | xl a n cap hc hm ha=>exact .xl a n cap hc hm ha
 | slo n a len cap x h hc hm=>exact .slo n a len cap x h hc hm
 | mref n b h=>exact .mref n b h
 | mp n kd clock b kvs h=>exact .mref n b h
 | mit n since seen last b=>exact .any _
 | mo kd clock b kvs=>exact .mz _
 | mz b=>exact .mz _
theorem D.s2_of {d:D} (h:∀cs,d≠ .agg cs):d.s2=d.s1:=by
 cases d <;> first | rfl | exact absurd rfl (h _)
theorem D.strip_of {d:D} (h:∀cs,d≠ .tup cs):d.strip=d.s2:=by
 cases d <;> first | rfl | exact absurd rfl (h _)
theorem R.s2 {M:Mem} {d:D} (h:R M bs d x):R M bs d.s2 x:=by
 cases d with
 | agg cs =>
  cases h with
  | agg cs vs hl hr h1=>
   refine .agg _ vs (by simpa using hl) (fun i d x h3 h4=>?_) h1;rw [bP,cU] at h3;obtain⟨d',h3,rfl⟩:=h3;exact(hr i d' x h3 h4).s1
 | _=>rw [D.s2_of (by intro cs h;cases h)];exact h.s1
theorem R.strip {M:Mem} {d:D} (h:R M bs d x):R M bs d.strip x:=by
 cases d with
 | tup cs =>
  cases h with
  | tup cs vs hl hr=>
   refine .tup _ vs (by simpa using hl) (fun i d x h3 h4=>?_);rw [bP,cU] at h3;obtain⟨d',h3,rfl⟩:=h3;exact(hr i d' x h3 h4).s2
 | _=>rw [D.strip_of (by intro cs h;cases h)];exact h.s2
theorem D.flat_s1 {d:D} (h1:∀cs,d≠ .agg cs)(h2:∀cs,d≠ .tup cs):d.s1.flat=true:=by
 cases d <;> first | rfl | exact absurd rfl (h1 _) | exact absurd rfl (h2 _)
theorem R.one {M:Mem} {d:D} (h:R M bs d x)(hx:x.oneCell'=true):(∀cs,d≠ .agg cs)/\(∀cs,d≠ .tup cs):=by
 cases h <;> simp_all [Value.oneCell']
theorem Hp {M M':Mem} {X:Nat->Option jK} {h:Holder} {d:D} (hr:R M bs d x)(hx:x.oneCell'=true):Own w M' bs' X h p d.s1 x:=
 .flat p _ x (D.flat_s1 (hr.one hx).1 (hr.one hx).2)
theorem uX {M M':Mem} {X:Nat->Option jK} {h:Holder} {d:D} (hr:R M bs d x)(ht:∀cs,d≠ .tup cs):Own w M' bs' X h p d.s2 x:=by
 cases d with
 | agg cs =>
  cases hr with
  | agg cs vs hl hr h1=>
   refine .agg p _ vs fun i d x h3 h4=>?_;rw [bP,cU] at h3;obtain⟨d',h3,rfl⟩:=h3;exact Hp (hr i d' x h3 h4) (h1 i x h4)
 | _=>rw [D.s2_of (by intro cs h;cases h)];exact .flat p _ x (D.flat_s1 (by intro cs h;cases h) ht)
theorem R.cells_len {M:Mem} {d:D} (h:R M bs d x)(ha:d≠ .any)(ht:∀cs,d≠ .tup cs):x.cells.size=d.ncells:=by
 cases h with
 | any x=>exact absurd rfl ha
 | v x h=>cases x <;> simp_all [Value.oneCell',Value.cells,D.ncells]
 | agg cs vs hl hr h1=>simpa [Value.cells,D.ncells] using hl
 | tup cs vs hl hr=>exact absurd rfl (ht _)
 | _=>simp [Value.cells,D.ncells]
theorem R.one_of {M:Mem} {d:D} (h:R M bs d x)(hn:d≠ .any)(ha:∀cs,d≠ .agg cs)(ht:∀cs,d≠ .tup cs):x.oneCell'=true:=by
 cases h <;> first | rfl | assumption | exact absurd rfl (ha _) | exact absurd rfl (ht _) | exact absurd rfl hn
theorem Value.cells_one (h:x.oneCell'=true):x.cells=#[x]:=by
 cases x <;> simp_all [Value.oneCell',Value.cells]
theorem R.each {M:Mem} {d:D} (h:R M bs d x)(ha:d≠ .any)(ht:∀cs,d≠ .tup cs):
  ∀(i:Nat) (e:D) (y:Value),d.cells[i]?=some e->x.cells[i]?=some y->R M bs e y/\y.oneCell'=true:=by
 intro i e y h1 h2;cases d with
 | agg cs=>
  cases h with
  | agg cs vs hl hr hy=>exact⟨hr i e y h1 (by simpa [Value.cells] using h2),hy i y (by simpa [Value.cells] using h2)⟩
 | _ =>
  have ho:=h.one_of ha (by intro cs h;cases h) ht;rw [Value.cells_one ho] at h2
  match i with
  | 0=>
   simp [D.cells] at h1 h2;subst h1;subst h2;exact⟨h,ho⟩
  | i+1=>simp [D.cells] at h1
end Go.Vm
