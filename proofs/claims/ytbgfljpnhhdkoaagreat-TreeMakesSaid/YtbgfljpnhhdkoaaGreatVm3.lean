import Derived.Test.YtbgfljpnhhdkoaaGreatVmA
import Derived.WalkKit
import Derived.MapKept
set_option linter.all false
namespace Go.Vm
open Go
variable {P:Program}{b:Nat}{bs bs' p:List Nat}{o:Oper}{v x:Value}{val:Nat->Value}{w w':World}
inductive D where
 | any
 | v (x:Value)
 | sl (own:Bool) (es:List D)
 | agg (cs:List D)
 | tup (cs:List D)
 | adr (cs:List D)
 | ref (n off:Nat)
 | clo (f:Fn) (first caps:List D)
 | ifc (t:TypeId) (d:D)
 | xs (k:Nat) (es:List D)
 | xl (n:Nat)
 | slo (n a len cap:Nat)
 | mref (n:Nat)
 | mp (n:Nat) (kd:TypeDesc) (clock:Nat) (kvs:List (Value×Nat×D))
 | mit (n since:Nat) (seen:List Nat) (last:Nat)
 | mo (kd:TypeDesc) (clock:Nat) (kvs:List (Value×Nat×D))
 | mz
 deriving Inhabited
abbrev D.int(n:Int):D:= .v (.int .i64 n)
abbrev D.bool(b:Bool):D:= .v (.bool b)
abbrev D.str(s:ByteArray):D:= .v (.string s)
def D.ncells:D->Nat
 | .agg cs=>cs.length
 | _=>1
def D.cells:D->List D
 | .agg cs=>cs
 | d=> [d]
abbrev Mem:=Nat->Nat->Option Value
def Mem.le(M M':Mem):Prop:=∀b o c,M b o=some c->M' b o=some c
inductive R(M:Mem)(bs:List Nat):D->Value->Prop
 | any (x:Value):R M bs .any x
 | v (x:Value) (h:x.oneCell'=true):R M bs (.v x) x
 | nil (o:Bool):R M bs (.sl o []) (.slice none 0 0)
 | emp (o:Bool) (a:Addr) (cap:Nat) (hm:cap<=maxLen):R M bs (.sl o []) (.slice (some a) 0 cap)
 | sl (o : Bool) (es : List D) (b off n cap k : Nat) (vs : List Value) (hl : vs.length = es.length) (hn : n = es.length) (hk : 0 < k) (hc : n <= cap) (hm : cap <= maxLen)
   (hr:∀(i:Nat) (d:D) (x:Value),es[i]?=some d->vs[i]?=some x->R M bs d x)
   (hs:∀(i:Nat) (d:D),es[i]?=some d->d.ncells=k)
   (hx:∀(i:Nat) (x:Value),vs[i]?=some x->x.cells.size=k/\∀(j:Nat) (c:Value),x.cells[j]?=some c->c.oneCell'=true/\M b (off+(i * k+j))=some c):
   R M bs (.sl o es) (.slice (some ⟨b,off,none⟩) n cap)
 | agg (cs : List D) (vs : Array Value) (hl : vs.size = cs.length) (hr : ∀ (i : Nat) (d : D) (x : Value), cs[i]? = some d -> vs[i]? = some x -> R M bs d x)
   (h1:∀(i:Nat) (x:Value),vs[i]?=some x->x.oneCell'=true):R M bs (.agg cs) (.agg vs)
 | tup (cs:List D) (vs:Array Value) (hl:vs.size=cs.length) (hr:∀(i:Nat) (d:D) (x:Value),cs[i]?=some d->vs[i]?=some x->R M bs d x):R M bs (.tup cs) (.tuple vs)
 | adr (cs : List D) (b off : Nat) (vs : List Value) (hl : vs.length = cs.length) (hr : ∀ (i : Nat) (d : D) (x : Value), cs[i]? = some d -> vs[i]? = some x -> R M bs d x)
   (hx:∀(i:Nat) (x:Value),vs[i]?=some x->x.oneCell'=true/\M b (off+i)=some x):R M bs (.adr cs) (.pointer (some ⟨b,off,none⟩))
 | ref (n off b:Nat) (h:bs[n]?=some b):R M bs (.ref n off) (.pointer (some ⟨b,off,none⟩))
 | clo (f : Fn) (first caps : List D) (v1 v2 : Array Value) (l1 : v1.size = first.length) (l2 : v2.size = caps.length)
   (h1:∀(i:Nat) (d:D) (x:Value),first[i]?=some d->v1[i]?=some x->R M bs d x)
   (h2:∀(i:Nat) (d:D) (x:Value),caps[i]?=some d->v2[i]?=some x->R M bs d x):R M bs (.clo f first caps) (.func f v1 v2)
 | ifc (t:TypeId) (d:D) (x:Value) (h:R M bs d x):R M bs (.ifc t d) (.iface t x)
 | xs (k:Nat) (es:List D) (a:Option Addr) (n cap:Nat) (hn:n=es.length) (hc:n<=cap) (hm:cap<=maxLen) (ha:a=none->n=0/\cap=0):R M bs (.xs k es) (.slice a n cap)
 | xl (a:Option Addr) (n cap:Nat) (hc:n<=cap) (hm:cap<=maxLen) (ha:a=none->n=0/\cap=0):R M bs (.xl n) (.slice a n cap)
 | slo (n a len cap:Nat) (x:Option Addr) (h:0<cap->∃b:Nat,bs[n]?=some b/\x=some ⟨b,a,none⟩) (hc:len<=cap) (hm:cap<=maxLen):R M bs (.slo n a len cap) (.slice x len cap)
 | mref (n b:Nat) (h:bs[n]?=some b):R M bs (.mref n) (.map (some b))
 | mp (n:Nat) (kd:TypeDesc) (clock b:Nat) (kvs:List (Value×Nat×D)) (h:bs[n]?=some b):R M bs (.mp n kd clock kvs) (.map (some b))
 | mit (n since:Nat) (seen:List Nat) (last b:Nat):R M bs (.mit n since seen last) (.pointer (some ⟨b,0,none⟩))
 | mo (kd:TypeDesc) (clock b:Nat) (kvs:List (Value×Nat×D)):R M bs (.mo kd clock kvs) (.map (some b))
 | mz (b:Nat):R M bs .mz (.map (some b))
theorem R.mono {M M':Mem} (hM:M.le M')(hb:∀(n b:Nat),bs[n]?=some b->bs'[n]?=some b) {d:D} (h:R M bs d x):R M' bs' d x:=by
 induction h with
 | any x=>exact .any x
 | v x h=>exact .v x h
 | nil o=>exact .nil o
 | emp o a cap hm=>exact .emp o a cap hm
 | sl o es b off n cap k vs hl hn hk hc hm hr hs hx ih=>exact .sl o es b off n cap k vs hl hn hk hc hm ih hs (fun i x h=>⟨(hx i x h).1,fun j c h'=>⟨((hx i x h).2 j c h').1,hM _ _ _ ((hx i x h).2 j c h').2⟩⟩)
 | agg cs vs hl hr h1 ih=>exact .agg cs vs hl ih h1
 | tup cs vs hl hr ih=>exact .tup cs vs hl ih
 | adr cs b off vs hl hr hx ih=>exact .adr cs b off vs hl ih (fun i x h=>⟨(hx i x h).1,hM _ _ _ (hx i x h).2⟩)
 | ref n off b h=>exact .ref n off b (hb n b h)
 | clo f first caps v1 v2 l1 l2 h1 h2 ih1 ih2=>exact .clo f first caps v1 v2 l1 l2 ih1 ih2
 | ifc t d x h ih=>exact .ifc t d x ih
 | xs k es a n cap hn hc hm ha=>exact .xs k es a n cap hn hc hm ha
 | xl a n cap hc hm ha=>exact .xl a n cap hc hm ha
 | slo n a len cap x h hc hm=>exact .slo n a len cap x (fun h0=>by obtain⟨b,h1,h2⟩:=h h0;exact⟨b,hb n b h1,h2⟩) hc hm
 | mref n b h=>exact .mref n b (hb n b h)
 | mp n kd clock b kvs h=>exact .mp n kd clock b kvs (hb n b h)
 | mit n since seen last b=>exact .mit n since seen last b
 | mo kd clock b kvs=>exact .mo kd clock b kvs
 | mz b=>exact .mz b
def D.s1:D->D
 | .sl _ es=> .sl false es
 | .xs _ es=> .xl es.length
 | .mp n _ _ _=> .mref n
 | .mit _ _ _ _=> .any
 | .mo _ _ _=> .mz
 | d=>d
def D.s2:D->D
 | .agg cs=> .agg (cs.map D.s1)
 | d=>d.s1
def D.strip:D->D
 | .tup cs=> .tup (cs.map D.s2)
 | d=>d.s2
inductive Holder where
 | slot (t:Nat)
 | loc (n:Nat)
 | obj (n:Nat)
 deriving DecidableEq
abbrev mV:=Holder×List Nat
def aB6(w:World)(M:Mem)(X:Nat->Option mV)(t:mV)(es:List D)(v:Value):Prop:=
 (∃a n,v= .slice a n 0)\/
 ∃b n cap k cur E,v= .slice (some ⟨b,0,none⟩) n cap/\es≠ []/\X b=some t/\w.heap[b]?=some (.cells cur E (0,0))/\0<k/\cur.size=cap * k/\n=es.length/\n<=cap/\cap<=maxLen/\
  (∀o,n * k<=o->M b o=none)/\(∀(i:Nat) (d:D),es[i]?=some d->d.ncells=k)
def D.flat:D->Bool
 | .sl own _=> !own
 | .agg _ | .tup _ | .xs _ _ | .mp _ _ _ _ | .mit _ _ _ _ | .mo _ _ _=>false
 | _=>true
def D.arr(d:D):Bool:=d.cells.all D.flat
def Zx(w:World)(M:Mem)(bs:List Nat)(X:Nat->Option mV)(t:mV)(k:Nat)(es:List D)(v:Value):Prop:=
 (es= []/\∃a,v= .slice a 0 0)\/
 ∃b n cap cur E,v= .slice (some ⟨b,0,none⟩) n cap/\X b=some t/\w.heap[b]?=some (.cells cur E (0,0))/\0<k/\cur.size=cap * k/\n=es.length/\n<=cap/\cap<=maxLen/\
  (∀o,M b o=none)/\(∀(o:Nat) (c:Value),cur[o]?=some c->c.oneCell'=true)/\(∀(i:Nat) (d:D),es[i]?=some d->d.ncells=k/\d.arr=true)/\
  ∀(i:Nat) (d:D) (j:Nat) (e:D),es[i]?=some d->d.cells[j]?=some e->∃x,cur[i * k+j]?=some x/\R M bs e x
def aY0(w:World)(M:Mem)(bs:List Nat)(X:Nat->Option mV)(t:mV)(n:Nat)(kd:TypeDesc)(clock:Nat)(kvs:List (Value×Nat×D))(v:Value):Prop:=
 ∃b es,v= .map (some b)/\bs[n]?=some b/\X b=some t/\w.heap[b]?=some (.map es clock)/\(∀o,M b o=none)/\es.size=kvs.length/\(MapKept.Stamped es clock/\∀x∈es.toList,MapKept.IsKey kd x.key)/\
  ∀(i:Nat) (k:Value) (s:Nat) (d:D) (e:MapEntry),kvs[i]?=some (k,s,d)->es[i]?=some e->e.key=k/\e.born=s/\R M bs d e.val/\d.arr=true
def aWp(w:World)(M:Mem)(bs:List Nat)(X:Nat->Option mV)(t:mV)(kd:TypeDesc)(clock:Nat)(kvs:List (Value×Nat×D))(v:Value):Prop:=
 ∃b es,v= .map (some b)/\X b=some t/\w.heap[b]?=some (.map es clock)/\(∀o,M b o=none)/\es.size=kvs.length/\(MapKept.Stamped es clock/\∀x∈es.toList,MapKept.IsKey kd x.key)/\
  ∀(i:Nat) (k:Value) (s:Nat) (d:D) (e:MapEntry),kvs[i]?=some (k,s,d)->es[i]?=some e->e.key=k/\e.born=s/\R M bs d e.val/\d.arr=true
def aW5(w:World)(M:Mem)(bs:List Nat)(X:Nat->Option mV)(t:mV)(n since:Nat)(seen:List Nat)(last:Nat)(v:Value):Prop:=
 ∃b bm,v= .pointer (some ⟨b,0,none⟩)/\bs[n]?=some bm/\X b=some t/\w.heap[b]?=some (.mapIter (some bm) since seen.toArray last)/\(∀o,M b o=none)
inductive Own(w:World)(M:Mem)(bs:List Nat)(X:Nat->Option mV)(h:Holder):List Nat->D->Value->Prop
 | sl (p:List Nat) (es:List D) (v:Value) (ho:aB6 w M X (h,p) es v):Own w M bs X h p (.sl true es) v
 | xs (p:List Nat) (k:Nat) (es:List D) (v:Value) (ho:Zx w M bs X (h,p) k es v):Own w M bs X h p (.xs k es) v
 | mp (p:List Nat) (n:Nat) (kd:TypeDesc) (clock:Nat) (kvs:List (Value×Nat×D)) (v:Value) (ho:aY0 w M bs X (h,p) n kd clock kvs v):Own w M bs X h p (.mp n kd clock kvs) v
 | mit (p:List Nat) (n since:Nat) (seen:List Nat) (last:Nat) (v:Value) (ho:aW5 w M bs X (h,p) n since seen last v):Own w M bs X h p (.mit n since seen last) v
 | mo (p:List Nat) (kd:TypeDesc) (clock:Nat) (kvs:List (Value×Nat×D)) (v:Value) (ho:aWp w M bs X (h,p) kd clock kvs v):Own w M bs X h p (.mo kd clock kvs) v
 | agg (p:List Nat) (cs:List D) (vs:Array Value) (hr:∀(i:Nat) (d:D) (x:Value),cs[i]?=some d->vs[i]?=some x->Own w M bs X h (p++ [i]) d x):Own w M bs X h p (.agg cs) (.agg vs)
 | tup (p:List Nat) (cs:List D) (vs:Array Value) (hr:∀(i:Nat) (d:D) (x:Value),cs[i]?=some d->vs[i]?=some x->Own w M bs X h (p++ [i]) d x):Own w M bs X h p (.tup cs) (.tuple vs)
 | flat (p:List Nat) (d:D) (v:Value) (hf:d.flat=true):Own w M bs X h p d v
theorem Own.move {M M':Mem} {X X':Nat->Option mV} {h h':Holder} {d:D} (ho:Own w M bs X h p d v)(hMM:M.le M')(hbb:∀(n b:Nat),bs[n]?=some b->bs'[n]?=some b):
  ∀(p':List Nat),(∀(b:Nat) (q:List Nat),X b=some (h,p++q)->w'.heap[b]?=w.heap[b]?/\(∀o,M b o=none->M' b o=none)/\X' b=some (h',p'++q))->Own w' M' bs' X' h' p' d v:=by
 induction ho with
 | sl p es v ho=>
  intro p' hb;refine .sl p' es v ?_;rcases ho with ⟨a,n,rfl⟩ | ⟨b,n,cap,k,cur,E,rfl,hes,hX,hh,hk,hc,hn,hn2,hm,hM,hs⟩
  .exact .inl ⟨a,n,rfl⟩
  obtain⟨h1,h2,h3⟩:=hb b [] (by simpa using hX);exact .inr ⟨b,n,cap,k,cur,E,rfl,hes,by simpa using h3,by rw [h1];exact hh,hk,hc,hn,hn2,hm,fun o ho=>h2 o (hM o ho),hs⟩
 | xs p k es v ho =>
  intro p' hb;refine .xs p' k es v ?_;rcases ho with ho | ⟨b,n,cap,cur,E,rfl,hX,hh,hk,hc,hn,hn2,hm,hM,h1c,hs,hr⟩
  .exact .inl ho
  obtain⟨h1,h2,h3⟩:=hb b [] (by simpa using hX);exact .inr ⟨b,n,cap,cur,E,rfl,by simpa using h3,by rw [h1];exact hh,hk,hc,hn,hn2,hm,fun o=>h2 o (hM o),h1c,hs,fun i d j e a1 a2=>by
   obtain⟨x,x1,x2⟩:=hr i d j e a1 a2;exact⟨x,x1,x2.mono hMM hbb⟩⟩
 | mp p n kd clock kvs v ho =>
  intro p' hb;obtain⟨b,es,rfl,hbn,hX,hh,hM,hsz,hst,hr⟩:=ho;obtain⟨h1,h2,h3⟩:=hb b [] (by simpa using hX);exact .mp p' n kd clock kvs _ ⟨b,es,rfl,hbb n b hbn,by simpa using h3,by rw [h1];exact hh,fun o=>h2 o (hM o),hsz,hst,fun i k s d e a1 a2=>by
   obtain⟨r1,r2,r3,r4⟩:=hr i k s d e a1 a2;exact⟨r1,r2,r3.mono hMM hbb,r4⟩⟩
 | mit p n since seen last v ho=>
  intro p' hb;obtain⟨b,bm,rfl,hbn,hX,hh,hM⟩:=ho;obtain⟨h1,h2,h3⟩:=hb b [] (by simpa using hX);exact .mit p' n since seen last _ ⟨b,bm,rfl,hbb n bm hbn,by simpa using h3,by rw [h1];exact hh,fun o=>h2 o (hM o)⟩
 | mo p kd clock kvs v ho =>
  intro p' hb;obtain⟨b,es,rfl,hX,hh,hM,hsz,hst,hr⟩:=ho;obtain⟨h1,h2,h3⟩:=hb b [] (by simpa using hX);exact .mo p' kd clock kvs _ ⟨b,es,rfl,by simpa using h3,by rw [h1];exact hh,fun o=>h2 o (hM o),hsz,hst,fun i k s d e a1 a2=>by
   obtain⟨r1,r2,r3,r4⟩:=hr i k s d e a1 a2;exact⟨r1,r2,r3.mono hMM hbb,r4⟩⟩
 | agg p cs vs hr ih=>
  intro p' hb;refine .agg p' cs vs fun i d x h1 h2=>ih i d x h1 h2 (p'++ [i]) fun b q hX=>?_;have:=hb b (i::q) (by simpa using hX);simpa using this
 | tup p cs vs hr ih=>
  intro p' hb;refine .tup p' cs vs fun i d x h1 h2=>ih i d x h1 h2 (p'++ [i]) fun b q hX=>?_;have:=hb b (i::q) (by simpa using hX);simpa using this
 | flat p d v hf=>exact fun p' _=> .flat p' d v hf
theorem Own.keep {M M':Mem} {X X':Nat->Option mV} {h:Holder} {d:D} (ho:Own w M bs X h p d v)(hMM:M.le M')(hbb:∀(n b:Nat),bs[n]?=some b->bs'[n]?=some b)
  (hb:∀(b:Nat) (q:List Nat),X b=some (h,q)->w'.heap[b]?=w.heap[b]?/\(∀o,M b o=none->M' b o=none)/\X' b=some (h,q)):Own w' M' bs' X' h p d v:=
 ho.move hMM hbb p fun b q hX=>hb b (p++q) hX
theorem R.s1 {M:Mem} {d:D} (h:R M bs d x):R M bs d.s1 x:=by
 cases h with
 | nil o=>exact .nil _
 | emp o a cap hm=>exact .emp _ a cap hm
 | sl o es b off n cap k vs hl hn hk hc hm hr hs hx=>exact .sl _ es b off n cap k vs hl hn hk hc hm hr hs hx
 | any x=>exact .any x
 | v x h=>exact .v x h
 | agg cs vs hl hr h1=>exact .agg cs vs hl hr h1
 | tup cs vs hl hr=>exact .tup cs vs hl hr
 | adr cs b off vs hl hr hx=>exact .adr cs b off vs hl hr hx
 | ref n off b h=>exact .ref n off b h
 | clo f first caps v1 v2 l1 l2 h1 h2=>exact .clo f first caps v1 v2 l1 l2 h1 h2
 | ifc t d x h=>exact .ifc t d x h
 | xs k es a n cap hn hc hm ha=>subst hn;exact .xl a _ cap hc hm ha
 | xl a n cap hc hm ha=>exact .xl a n cap hc hm ha
 | slo n a len cap x h hc hm=>exact .slo n a len cap x h hc hm
 | mref n b h=>exact .mref n b h
 | mp n kd clock b kvs h=>exact .mref n b h
 | mit n since seen last b=>exact .any _
 | mo kd clock b kvs=>exact .mz _
 | mz b=>exact .mz _
theorem D.s2_of {d:D} (h:∀cs,d≠ .agg cs):d.s2=d.s1:=by
 cases d <;> first | rfl | exact absurd rfl (h _)
theorem D.strip_of {d:D} (h:∀cs,d≠ .tup cs):d.strip=d.s2:=by
 cases d <;> first | rfl | exact absurd rfl (h _)
theorem R.s2 {M:Mem} {d:D} (h:R M bs d x):R M bs d.s2 x:=by
 cases d with
 | agg cs =>
  cases h with
  | agg cs vs hl hr h1=>
   refine .agg _ vs (by simpa using hl) (fun i d x h3 h4=>?_) h1;rw [cF,dG] at h3;obtain⟨d',h3,rfl⟩:=h3;exact(hr i d' x h3 h4).s1
 | _=>rw [D.s2_of (by intro cs h;cases h)];exact h.s1
theorem R.strip {M:Mem} {d:D} (h:R M bs d x):R M bs d.strip x:=by
 cases d with
 | tup cs =>
  cases h with
  | tup cs vs hl hr=>
   refine .tup _ vs (by simpa using hl) (fun i d x h3 h4=>?_);rw [cF,dG] at h3;obtain⟨d',h3,rfl⟩:=h3;exact(hr i d' x h3 h4).s2
 | _=>rw [D.strip_of (by intro cs h;cases h)];exact h.s2
theorem D.flat_s1 {d:D} (h1:∀cs,d≠ .agg cs)(h2:∀cs,d≠ .tup cs):d.s1.flat=true:=by
 cases d <;> first | rfl | exact absurd rfl (h1 _) | exact absurd rfl (h2 _)
theorem R.one {M:Mem} {d:D} (h:R M bs d x)(hx:x.oneCell'=true):(∀cs,d≠ .agg cs)/\(∀cs,d≠ .tup cs):=by
 cases h <;> simp_all [Value.oneCell']
theorem Rd {M M':Mem} {X:Nat->Option mV} {h:Holder} {d:D} (hr:R M bs d x)(hx:x.oneCell'=true):Own w M' bs' X h p d.s1 x:=
 .flat p _ x (D.flat_s1 (hr.one hx).1 (hr.one hx).2)
theorem Bk {M M':Mem} {X:Nat->Option mV} {h:Holder} {d:D} (hr:R M bs d x)(ht:∀cs,d≠ .tup cs):Own w M' bs' X h p d.s2 x:=by
 cases d with
 | agg cs =>
  cases hr with
  | agg cs vs hl hr h1=>
   refine .agg p _ vs fun i d x h3 h4=>?_;rw [cF,dG] at h3;obtain⟨d',h3,rfl⟩:=h3;exact Rd (hr i d' x h3 h4) (h1 i x h4)
 | _=>rw [D.s2_of (by intro cs h;cases h)];exact .flat p _ x (D.flat_s1 (by intro cs h;cases h) ht)
theorem R.cells_len {M:Mem} {d:D} (h:R M bs d x)(ha:d≠ .any)(ht:∀cs,d≠ .tup cs):x.cells.size=d.ncells:=by
 cases h with
 | any x=>exact absurd rfl ha
 | v x h=>cases x <;> simp_all [Value.oneCell',Value.cells,D.ncells]
 | agg cs vs hl hr h1=>simpa [Value.cells,D.ncells] using hl
 | tup cs vs hl hr=>exact absurd rfl (ht _)
 | _=>simp [Value.cells,D.ncells]
theorem R.one_of {M:Mem} {d:D} (h:R M bs d x)(hn:d≠ .any)(ha:∀cs,d≠ .agg cs)(ht:∀cs,d≠ .tup cs):x.oneCell'=true:=by
 cases h <;> first | rfl | assumption | exact absurd rfl (ha _) | exact absurd rfl (ht _) | exact absurd rfl hn
theorem Value.cells_one (h:x.oneCell'=true):x.cells=#[x]:=by
 cases x <;> simp_all [Value.oneCell',Value.cells]
theorem R.each {M:Mem} {d:D} (h:R M bs d x)(ha:d≠ .any)(ht:∀cs,d≠ .tup cs):
  ∀(i:Nat) (e:D) (y:Value),d.cells[i]?=some e->x.cells[i]?=some y->R M bs e y/\y.oneCell'=true:=by
 intro i e y h1 h2;cases d with
 | agg cs=>
  cases h with
  | agg cs vs hl hr hy=>exact⟨hr i e y h1 (by simpa [Value.cells] using h2),hy i y (by simpa [Value.cells] using h2)⟩
 | _ =>
  have ho:=h.one_of ha (by intro cs h;cases h) ht;rw [Value.cells_one ho] at h2
  match i with
  | 0=>
   simp [D.cells] at h1 h2;subst h1;subst h2;exact⟨h,ho⟩
  | i+1=>simp [D.cells] at h1
structure Gh where
 M:Mem
 X:Nat->Option mV
 bl:List Nat
 bs:List Nat
inductive Slot where
 | d (x:D)
 | lref (n off:Nat)
 deriving Inhabited
abbrev Slot.any:Slot:= .d .any
structure St where
 n:Nat
 env:Nat->Slot
 loc:List (List D)
 obj:List (List D)
def St.set(s:St)(t:Nat)(x:Slot):St:= { s with env:=fun u=>if u=t then x else s.env u }
def St.put(s:St)(dst:Option Tmp)(x:Slot):St:=match dst with | some t=>s.set t x | none=>s
def SlotOk(w:World)(g:Gh)(t:Nat):Slot->Value->Prop
 | .d x,v=>R g.M g.bs x v/\Own w g.M g.bs g.X (.slot t) [] x v
 | .lref n off,v=>∃b,g.bl[n]?=some b/\v= .pointer (some ⟨b,off,none⟩)
def BoxOk(w:World)(g:Gh)(h:Holder)(b:Nat)(cs:List D):Prop:=
 cs= []\/∃cur E,w.heap[b]?=some (.cells cur E (0,0))/\cur.size=cs.length/\g.X b=some (h, [])/\(∀o,g.M b o=none)/\
  ∀(i:Nat) (d:D) (x:Value),cs[i]?=some d->cur[i]?=some x->R g.M g.bs d x/\Own w g.M g.bs g.X h [i] d x/\x.oneCell'=true
structure Ok(w:World)(g:Gh)(st:St)(val:Nat->Value):Prop where
 mem:∀(b o:Nat) (c:Value),g.M b o=some c->w.cell? ⟨b,o,none⟩=some c
 xlt:∀(b:Nat) (t:mV),g.X b=some t->b<w.heap.size
 slot:∀t,SlotOk w g t (st.env t) (val t)
 ll:g.bl.length=st.loc.length
 loc:∀(n b:Nat) (cs:List D),g.bl[n]?=some b->st.loc[n]?=some cs->BoxOk w g (.loc n) b cs
 ol:g.bs.length=st.obj.length
 obj:∀(n b:Nat) (cs:List D),g.bs[n]?=some b->st.obj[n]?=some cs->BoxOk w g (.obj n) b cs
structure Fr(w:World)(g:Gh)(w':World)(g':Gh):Prop where
 os:w'.os=w.os
 tape:w'.tape=w.tape
 output:w'.output=w.output
 size:w.heap.size<=w'.heap.size
 keep:∀b,b<w.heap.size->g.X b=none->w'.heap[b]?=w.heap[b]?/\g'.X b=none/\∀o,g'.M b o=g.M b o
 mono:g.M.le g'.M
 bs:∀(n b:Nat),g.bs[n]?=some b->g'.bs[n]?=some b
theorem Fr.refl(w:World)(g:Gh):Fr w g w g:=⟨rfl,rfl,rfl,aW _,fun _ _ h=>⟨rfl,h,fun _=>rfl⟩,fun _ _ _ h=>h,fun _ _ h=>h⟩
theorem Fr.trans {w1 w2:World} {g g1 g2:Gh} (h:Fr w g w1 g1)(k:Fr w1 g1 w2 g2):Fr w g w2 g2:=
 ⟨k.os.trans h.os,k.tape.trans h.tape,k.output.trans h.output,lM h.size k.size,
  fun b hb hx=>by
   obtain⟨a1,a2,a3⟩:=h.keep b hb hx;obtain⟨b1,b2,b3⟩:=k.keep b (sF hb h.size) a2;exact⟨b1.trans a1,b2,fun o=>(b3 o).trans (a3 o)⟩,
  fun b o c hc=>k.mono b o c (h.mono b o c hc),fun n b hb=>k.bs n b (h.bs n b hb)⟩
section
variable {g g':Gh}
theorem SlotOk.keep {t:Nat} {s:Slot} (h:SlotOk w g t s v)(hM:g.M.le g'.M)(hbs:∀(n b:Nat),g.bs[n]?=some b->g'.bs[n]?=some b)(hbl:∀(n b:Nat),g.bl[n]?=some b->g'.bl[n]?=some b)
  (hk:∀(b:Nat) (q:List Nat),g.X b=some (.slot t,q)->w'.heap[b]?=w.heap[b]?/\(∀o,g.M b o=none->g'.M b o=none)/\g'.X b=some (.slot t,q)):SlotOk w' g' t s v:=by
 cases s with
 | d x=>exact⟨h.1.mono hM hbs,h.2.keep hM hbs hk⟩
 | lref n off=>obtain⟨b,hb,hv⟩:=h;exact⟨b,hbl n b hb,hv⟩
theorem BoxOk.keep {hd:Holder} {cs:List D} (h:BoxOk w g hd b cs)(hM:g.M.le g'.M)(hbs:∀(n b:Nat),g.bs[n]?=some b->g'.bs[n]?=some b)
  (hk:∀(b:Nat) (q:List Nat),g.X b=some (hd,q)->w'.heap[b]?=w.heap[b]?/\(∀o,g.M b o=none->g'.M b o=none)/\g'.X b=some (hd,q)):BoxOk w' g' hd b cs:=by
 rcases h with h | ⟨cur,E,h1,h2,h3,h4,h5⟩
 .exact .inl h
 obtain⟨k1,k2,k3⟩:=hk b [] h3;exact .inr ⟨cur,E,by rw [k1];exact h1,h2,k3,fun o=>k2 o (h4 o),fun i d x a1 a2=>⟨(h5 i d x a1 a2).1.mono hM hbs,(h5 i d x a1 a2).2.1.keep hM hbs hk,(h5 i d x a1 a2).2.2⟩⟩
theorem Ok.mlt {st:St} (h:Ok w g st val) {o:Nat} {c:Value} (hc:g.M b o=some c):b<w.heap.size:=
 World.block_lt_of_cell? w ⟨b,o,none⟩ (h.mem b o c hc)
theorem Ok.newM {st:St} (h:Ok w g st val)(o:Nat):g.M w.heap.size o=none:=by
 cases hc:g.M w.heap.size o with
 | none=>rfl
 | some c=>exact absurd (h.mlt hc) (zC _)
theorem Ok.newX {st:St} (h:Ok w g st val):g.X w.heap.size=none:=by
 cases hc:g.X w.heap.size with
 | none=>rfl
 | some c=>exact absurd (h.xlt _ _ hc) (zC _)
theorem Ok.set {st:St} (h:Ok w g st val)(t:Nat)(s:Slot)(v:Value)(hs:SlotOk w g t s v):Ok w g (st.set t s) (fun u=>if u=t then v else val u):=by
 refine⟨h.mem,h.xlt,fun u=>?_,h.ll,h.loc,h.ol,h.obj⟩;simp only [St.set];by_cases hu:u=t
 .subst hu;simpa using hs
 simpa [hu] using h.slot u
theorem Ok.drew {st:St} (h:Ok w g st val):Ok w.drew g st val:=
 ⟨h.mem,h.xlt,fun t=>(h.slot t).keep (fun _ _ _ h=>h) (fun _ _ h=>h) (fun _ _ h=>h) fun b q hx=>⟨rfl,fun _ h=>h,hx⟩,h.ll,
  fun n b cs h1 h2=>(h.loc n b cs h1 h2).keep (fun _ _ _ h=>h) (fun _ _ h=>h) fun b q hx=>⟨rfl,fun _ h=>h,hx⟩,h.ol,
  fun n b cs h1 h2=>(h.obj n b cs h1 h2).keep (fun _ _ _ h=>h) (fun _ _ h=>h) fun b q hx=>⟨rfl,fun _ h=>h,hx⟩⟩
theorem Fr.drew(w:World)(g:Gh):Fr w g w.drew g:=⟨rfl,rfl,rfl,aW _,fun _ _ h=>⟨rfl,h,fun _=>rfl⟩,fun _ _ _ h=>h,fun _ _ h=>h⟩
def gT(f:mV->mV)(X:Nat->Option mV):Nat->Option mV:=fun b=>(X b).map f
def kZ(h:Holder)(p:List Nat)(h':Holder)(p':List Nat):mV->mV:=fun t=>
 if t.1=h/\t.2.take p.length=p then(h',p'++t.2.drop p.length)else t
theorem rA {h:Holder} {h':Holder} {p':List Nat} {t:mV} (ht:t.1≠h):kZ h p h' p' t=t:=by simp [kZ,ht]
theorem Ok.take {st:St} (h:Ok w g st val)(s t:Nat)(hst:s≠t)(x:D)(hx:st.env s= .d x)(hnt:∀cs,x≠ .tup cs):
  Ok w { g with X:=gT (kZ (.slot s) [] (.slot t) []) g.X } ((st.set s (.d x.s2)).set t (.d x)) (fun u=>if u=t then val s else val u):=by
 have hs:=h.slot s;rw [hx] at hs;have other:∀(hd:Holder),hd≠ .slot s->∀(b:Nat) (q:List Nat),g.X b=some (hd,q)->w.heap[b]?=w.heap[b]?/\(∀o,g.M b o=none->g.M b o=none)/\gT (kZ (.slot s) [] (.slot t) []) g.X b=some (hd,q):=by
  intro hd hne b q hb;exact⟨rfl,fun _ h=>h,by simp [gT,hb,rA (t:=(hd,q)) hne]⟩
 refine⟨h.mem,fun b tg hb=>?_,fun u=>?_,h.ll,fun n b cs h1 h2=>(h.loc n b cs h1 h2).keep (fun _ _ _ h=>h) (fun _ _ h=>h) (other _ (by simp)),h.ol,
  fun n b cs h1 h2=>(h.obj n b cs h1 h2).keep (fun _ _ _ h=>h) (fun _ _ h=>h) (other _ (by simp))⟩
 .simp only [gT,dG] at hb;obtain⟨tg',hb,_⟩:=hb;exact h.xlt b tg' hb
 simp only [St.set];by_cases hu:u=t
 .subst hu;simp only [aU];refine⟨hs.1,hs.2.move (fun _ _ _ h=>h) (fun _ _ h=>h) [] fun b q hb=>⟨rfl,fun _ h=>h,?_⟩⟩;simp only [aO] at hb |-;simp [gT,hb,kZ]
 simp only [hu,bK];by_cases hus:u=s
 .subst hus;simp only [aU];exact⟨hs.1.s2,Bk hs.1 hnt⟩
 simp only [hus,bK];exact(h.slot u).keep (fun _ _ _ h=>h) (fun _ _ h=>h) (fun _ _ h=>h) (other _ (by simp [hus]))
theorem Fr.ren(w:World)(g:Gh)(f:mV->mV):Fr w g w { g with X:=gT f g.X } :=
 ⟨rfl,rfl,rfl,aW _,fun b _ h=>⟨rfl,by simp [gT,h],fun _=>rfl⟩,fun _ _ _ h=>h,fun _ _ h=>h⟩
def Mem.add(M:Mem)(b:Nat)(cs:Array Value):Mem:=fun b' o=>if b'=b then cs[o]? else M b' o
theorem rC(w:World)(o:Obj) (h:b<w.heap.size):(w.alloc o).heap[b]?=w.heap[b]?:=by
 show(w.heap.push o)[b]?=_
 rw [Array.getElem?_push,aD (by omega)]
theorem vC(w:World)(o:Obj):(w.alloc o).heap[w.heap.size]?=some o:=by
 show(w.heap.push o)[w.heap.size]?=_
 simp
theorem Ok.known {st:St} (h:Ok w g st val)(cs kn:Array Value)(E:TypeId)(tg:Option mV)(hkn:∀(o:Nat) (c:Value),kn[o]?=some c->cs[o]?=some c):
  Ok (w.alloc (.cells cs E)) { g with M:=g.M.add w.heap.size kn,X:=fun b=>if b=w.heap.size then tg else g.X b } st val/\
   Fr w g (w.alloc (.cells cs E)) { g with M:=g.M.add w.heap.size kn,X:=fun b=>if b=w.heap.size then tg else g.X b } :=by
 have hM:g.M.le (g.M.add w.heap.size kn):=fun b o c hc=>by
  have:=h.mlt hc;simp only [Mem.add,aD (show ¬b=w.heap.size by omega)];exact hc
 have hk:∀(hd:Holder) (b:Nat) (q:List Nat),g.X b=some (hd,q)->(w.alloc (.cells cs E)).heap[b]?=w.heap[b]?/\(∀o,g.M b o=none->g.M.add w.heap.size kn b o=none)/\(if b=w.heap.size then tg else g.X b)=some (hd,q):=by
  intro hd b q hb;have:=h.xlt b _ hb;exact⟨rC w _ this,fun o ho=>by simp only [Mem.add,aD (show ¬b=w.heap.size by omega)];exact ho,by rw [aD (by omega)];exact hb⟩
 refine⟨⟨fun b o c hc=>?_,fun b t hb=>?_,fun t=>(h.slot t).keep hM (fun _ _ h=>h) (fun _ _ h=>h) (hk _),h.ll,fun n b ds h1 h2=>(h.loc n b ds h1 h2).keep hM (fun _ _ h=>h) (hk _),h.ol,
  fun n b ds h1 h2=>(h.obj n b ds h1 h2).keep hM (fun _ _ h=>h) (hk _)⟩,⟨rfl,rfl,rfl,by simp,fun b hb hx=>⟨rC w _ hb,?_,fun o=>?_⟩,hM,fun _ _ h=>h⟩⟩
 .simp only [Mem.add] at hc;split at hc
  .rename_i hb;subst hb;simpa using hkn o c hc
  have:=h.mlt hc;rw [World.cell?_alloc_lt w _ ⟨b,o,none⟩ this];exact h.mem b o c hc
 .simp only at hb;simp only [World.size_alloc];split at hb
  .omega
  have:=h.xlt b t hb;omega
 .simp only [aD (show ¬b=w.heap.size by omega)];exact hx
 simp only [Mem.add,aD (show ¬b=w.heap.size by omega)]
theorem Ok.forget {st:St} (h:Ok w g st val)(t:Nat):Ok w g (st.set t .any) val:=by
 have:=h.set t .any (val t) ⟨.any _,.flat _ _ _ rfl⟩;have e:(fun u=>if u=t then val t else val u)=val:=by funext u;split <;> simp_all
 rwa [e] at this
theorem Ok.extend {st:St} (h:Ok w g st val)(t b s0:Nat)(cur cur':Array Value)(E:TypeId)(kn:Nat->Option Value)(hX:g.X b=some (.slot t, []))(ht:st.env t= .any)
  (hh:w.heap[b]?=some (.cells cur E (0,0))) (hM:∀o,s0<=o->g.M b o=none) (hc:∀o,o<s0->cur'[o]?=cur[o]?) (hkn:∀(o:Nat) (c:Value),kn o=some c->s0<=o/\cur'[o]?=some c):
  Ok (w.setRow b cur') { g with M:=fun b' o=>if b'=b then(if o<s0 then g.M b o else kn o)else g.M b' o } st val/\
   Fr w g (w.setRow b cur') { g with M:=fun b' o=>if b'=b then(if o<s0 then g.M b o else kn o)else g.M b' o } :=by
 have hle:g.M.le (fun b' o=>if b'=b then(if o<s0 then g.M b o else kn o)else g.M b' o):=by
  intro b' o c hc';by_cases e:b'=b
  .subst e;by_cases ho:o<s0
   .simpa [ho] using hc'
   rw [hM o (by omega)] at hc';cases hc'
  simpa [e] using hc'
 have hk:∀(hd:Holder),hd≠ .slot t->∀(b':Nat) (q:List Nat),g.X b'=some (hd,q)->(w.setRow b cur').heap[b']?=w.heap[b']?/\(∀o,g.M b' o=none->(if b'=b then(if o<s0 then g.M b o else kn o)else g.M b' o)=none)/\g.X b'=some (hd,q):=by
  intro hd hne b' q hx;have:b'≠b:=by
   intro e;subst e;rw [hX] at hx;simp only [bF,gI] at hx;exact hne hx.1.symm
  exact⟨setRow_other w b b' cur' this,fun o ho=>by rw [aD this];exact ho,hx⟩
 refine⟨⟨fun b' o c hc'=>?_,fun b' tg hx=>by rw [size_setRow];exact h.xlt b' tg hx,fun u=>?_,h.ll,fun n b ds h1 h2=>(h.loc n b ds h1 h2).keep hle (fun _ _ h=>h) (hk _ (by simp)),h.ol,
  fun n b ds h1 h2=>(h.obj n b ds h1 h2).keep hle (fun _ _ h=>h) (hk _ (by simp))⟩,⟨rfl,rfl,rfl,by simp,fun b' hb' hx=>?_,hle,fun _ _ h=>h⟩⟩
 .simp only at hc';by_cases e:b'=b
  .subst e;simp only [aU] at hc';rw [cell_of_row _ b' o cur' E (0,0) (setRow_heap w b' cur cur' E (0,0) hh)];split at hc'
   .rename_i ho;rw [hc o ho];have:=h.mem b' o c hc'
    rwa [cell_of_row _ b' o cur E (0,0) hh] at this
   exact(hkn o c hc').2
  simp only [aD e] at hc';rw [World.cell?_of_block (w:=w) (a:=⟨b',o,none⟩) (setRow_other w b b' cur' e)];exact h.mem b' o c hc'
 .by_cases e:u=t
  .subst e;rw [ht];exact⟨.any _,.flat _ _ _ rfl⟩
  exact(h.slot u).keep hle (fun _ _ h=>h) (fun _ _ h=>h) (hk _ (by simp [e]))
 have:b'≠b:=by intro e;subst e;rw [hX] at hx;cases hx
 exact⟨setRow_other w b b' cur' this,hx,fun o=>by simp only [aD this]⟩
theorem Ok.box {st:St} (h:Ok w g st val)(cs:List D)(cur:Array Value)(E:TypeId)(hl:cur.size=cs.length)
  (hr:∀(i:Nat) (d:D) (x:Value),cs[i]?=some d->cur[i]?=some x->R g.M g.bs d x/\Own w g.M g.bs g.X (.loc st.loc.length) [i] d x/\x.oneCell'=true):
  Ok (w.alloc (.cells cur E)) { g with X:=(fun b=>if b=w.heap.size then some (.loc st.loc.length, [])else g.X b),bl:=g.bl++ [w.heap.size] } { st with loc:=st.loc++ [cs] } val/\
   Fr w g (w.alloc (.cells cur E)) { g with X:=(fun b=>if b=w.heap.size then some (.loc st.loc.length, [])else g.X b),bl:=g.bl++ [w.heap.size] } :=by
 have hk:∀(hd:Holder) (b:Nat) (q:List Nat),g.X b=some (hd,q)->(w.alloc (.cells cur E)).heap[b]?=w.heap[b]?/\(∀o,g.M b o=none->g.M b o=none)/\(if b=w.heap.size then some (.loc st.loc.length, [])else g.X b)=some (hd,q):=by
  intro hd b q hb;have:=h.xlt b _ hb;exact⟨rC w _ this,fun o ho=>ho,by rw [aD (by omega)];exact hb⟩
 have hbl:∀(n b:Nat),g.bl[n]?=some b->(g.bl++ [w.heap.size])[n]?=some b:=fun n b hb=>by
  rw [bC (by exact(aP.1 hb).1)];exact hb
 refine⟨⟨fun b o c hc=>?_,fun b t hb=>?_,fun t=>(h.slot t).keep (fun _ _ _ h=>h) (fun _ _ h=>h) hbl (hk _),by simp [h.ll],fun n b ds h1 h2=>?_,h.ol,
  fun n b ds h1 h2=>(h.obj n b ds h1 h2).keep (fun _ _ _ h=>h) (fun _ _ h=>h) (hk _)⟩,⟨rfl,rfl,rfl,by simp,fun b hb hx=>⟨rC w _ hb,?_,fun o=>rfl⟩,fun _ _ _ h=>h,fun _ _ h=>h⟩⟩
 .have:=h.mlt hc;rw [World.cell?_alloc_lt w _ ⟨b,o,none⟩ this];exact h.mem b o c hc
 .simp only at hb;simp only [World.size_alloc];split at hb
  .omega
  have:=h.xlt b t hb;omega
 .by_cases hn:n<st.loc.length
  .have h1':g.bl[n]?=some b:=by rw [bC (by rw [h.ll];exact hn)] at h1;exact h1
   have h2':st.loc[n]?=some ds:=by rw [bC hn] at h2;exact h2
   exact(h.loc n b ds h1' h2').keep (fun _ _ _ h=>h) (fun _ _ h=>h) (hk _)
  have hlt:=(aP.1 h2).1;simp at hlt;have hn':n=st.loc.length:=by omega
  subst hn';have e1:b=w.heap.size:=by
   have h1':=h1;rw [<- h.ll] at h1';simpa using h1'.symm
  have e2:ds=cs:=by simpa using h2.symm
  subst e1;subst e2;exact .inr ⟨cur,E,vC w _,hl,by simp,fun o=>h.newM o,fun i d x a1 a2=>⟨(hr i d x a1 a2).1,(hr i d x a1 a2).2.1.keep (fun _ _ _ h=>h) (fun _ _ h=>h) (hk _),(hr i d x a1 a2).2.2⟩⟩
 simp only [aD (show ¬b=w.heap.size by omega)];exact hx
end
def cJ(tmps:Array Value):Nat->Value:=fun t=>tmps.getD t undef
theorem aHq(tmps:Array Value)(d:Nat)(v:Value)(h:d<tmps.size):cJ (tmps.setIfInBounds d v)=fun u=>if u=d then v else cJ tmps u:=by
 funext u;simp only [cJ,kO,Pk];by_cases hu:d=u
 .subst hu;simp [h]
 have:¬u=d:=fun e=>hu e.symm;simp [hu,this]
def fT(l:List D):Nat->Slot:=fun t=>match l[t]? with | some d=> .d d | none=> .any
def St.ofArgs(args:List D)(σ:List (List D)):St:= { n:=args.length,env:=fT args,loc:= [],obj:=σ }
def St.ofRes(r:D)(σ:List (List D)):St:= { n:=1,env:=fT [r],loc:= [],obj:=σ }
def Ef (P : Program) (f : FuncId) : Bool := match P.funcs[f]? with | some fn => fn.name != "runtime.NumGoroutine" && fn.body.isSome | none => false
def Ct(P:Program)(f:FuncId)(args:List D)(σ:List (List D))(Q:D->List (List D)->Prop):Prop:=
 Ef P f=true/\∀(w:World) (g:Gh) (vs:Array Value),vs.size=args.length->g.bl= []->Ok w g (St.ofArgs args σ) (cJ vs)->
  Calls P f vs w fun e w'=>∃r σ' x g',e= .returned x/\Q r σ'/\g'.bl= []/\Fr w g w' g'/\Ok w' g' (St.ofRes r σ') (fun t=>if t=0 then x else undef)
theorem Ct.mono {f:FuncId} {args:List D} {σ:List (List D)} {Q Q':D->List (List D)->Prop} (h:Ct P f args σ Q)(hq:∀r σ',Q r σ'->Q' r σ'):Ct P f args σ Q':=
 ⟨h.1,fun w g vs hs hb ho=>(h.2 w g vs hs hb ho).mono fun _ _ ⟨r,σ',x,g',he,hQ,hb',hf,hk⟩=>⟨r,σ',x,g',he,hq r σ' hQ,hb',hf,hk⟩⟩
def Does(P:Program)(o:Oper)(st:St)(K:St->Prop):Prop:=
 ∀(w:World) (g:Gh) (tmps:Array Value),Ok w g st (cJ tmps)->tmps.size=st.n->
  o.wp P ⟨tmps, []⟩ w (fun a w'=>a.defers= []/\∃st' g',K st'/\Fr w g w' g'/\Ok w' g' st' (cJ a.tmps)/\a.tmps.size=st'.n/\g'.bl.take g.bl.length=g.bl) (fun _ _ _=>False)
theorem Does.mono {st:St} {K K':St->Prop} (h:Does P o st K)(hk:∀s,K s->K' s):Does P o st K':=
 fun w g tmps h1 h2=>Oper.wp_mono (fun _ _ ⟨a1,st',g',a2,a3⟩=>⟨a1,st',g',hk _ a2,a3⟩) (h w g tmps h1 h2)
def xC(dst:Option Tmp)(v:Value)(val:Nat->Value):Nat->Value:=match dst with | some d=>fun u=>if u=d then v else val u | none=>val
theorem Cf(tmps:Array Value)(ds:List Deferred)(dst:Option Tmp)(v:Value)(h:∀d,dst=some d->d<tmps.size):cJ ((⟨tmps,ds⟩:Act).put dst v).tmps=xC dst v (cJ tmps):=by
 cases dst with
 | none=>rfl
 | some d=>exact aHq tmps d v (h d rfl)
theorem xP(a:Act)(dst:Option Tmp)(v:Value):(a.put dst v).tmps.size=a.tmps.size:=by
 cases dst <;> simp [Act.put]
theorem sV(a:Act)(dst:Option Tmp)(v:Value):(a.put dst v).defers=a.defers:=by
 cases dst <;> simp [Act.put]
def eF(o:Oper)(st:St):Prop:=match o.dst with | some d=>d<st.n | none=>True
theorem cH {st:St} {K:St->Prop} (hd:eF o st)
  (h:∀(w:World) (g:Gh) (tmps:Array Value),Ok w g st (cJ tmps)->∃v w' g' st',((execOp (⟨tmps, []⟩:Act).eval o).run P w= .ok (.value v) w'\/((execOp (⟨tmps, []⟩:Act).eval o).run P w= .ok .skip w'/\v=undef))/\
   K st'/\Fr w g w' g'/\Ok w' g' st' (xC o.dst v (cJ tmps))/\st'.n=st.n/\g'.bl.take g.bl.length=g.bl):Does P o st K:=by
 intro w g tmps hok hn;obtain⟨v,w',g',st',hrun,hK,hf,hok',hn',hbl⟩:=h w g tmps hok;have hdst:∀d,o.dst=some d->d<tmps.size:=by
  intro d hd';have hd2:d<st.n:=by simpa [eF,hd'] using hd
  rw [hn];exact hd2
 have e:=Cf tmps [] o.dst v hdst;unfold Oper.wp;rcases hrun with hrun | ⟨hrun,rfl⟩
 .rw [hrun,Oper.upon_value];exact⟨by simp [sV],st',g',hK,hf,by rw [e];exact hok',by rw [xP,hn'];exact hn,hbl⟩
 rw [hrun,Oper.upon_skip];exact⟨by simp [sV],st',g',hK,hf,by rw [e];exact hok',by rw [xP,hn'];exact hn,hbl⟩
theorem Ok.put {g:Gh} {st:St} (h:Ok w g st val)(dst:Option Tmp)(s:Slot)(v:Value)(hs:∀t,dst=some t->SlotOk w g t s v):Ok w g (st.put dst s) (xC dst v val):=by
 cases dst with
 | none=>exact h
 | some d=>exact h.set d s v (hs d rfl)
theorem Vv(st:St)(dst:Option Tmp)(s:Slot):(st.put dst s).n=st.n:=by cases dst <;> rfl
theorem cM {st:St} {K:St->Prop} (hd:eF o st)(s:Slot)
  (h:∀(w:World) (g:Gh) (tmps:Array Value),Ok w g st (cJ tmps)->∃v,(execOp (⟨tmps, []⟩:Act).eval o).run P w= .ok (.value v) w/\∀t,SlotOk w g t s v) (hK:K (st.put o.dst s)):Does P o st K:=by
 refine cH hd fun w g tmps hok=>?_;obtain⟨v,hrun,hs⟩:=h w g tmps hok;exact⟨v,w,g,_,.inl hrun,hK,Fr.refl w g,hok.put o.dst s v (fun t _=>hs t),Vv _ _ _,by simp⟩
theorem bV {g:Gh} {d:D} (h:R g.M g.bs d v)(hf:d.flat=true):∀t,SlotOk w g t (.d d) v:=fun _=>⟨h,.flat _ _ _ hf⟩
def Jy(ts:List (Option Nat)):mV->Option mV
 | (.slot t,q)=>(ts.findIdx? (· ==some t)).map fun p=>(.slot p,q)
 | (.obj n,q)=>some (.obj n,q)
 | (.loc _,_)=>none
def aKi(dst:Option Tmp):mV->Option mV
 | (.slot 0,q)=>dst.map fun d=>(.slot d,q)
 | (.obj n,q)=>some (.obj n,q)
 | _=>none
def gS(ts:List (Option Nat))(env:Nat->Slot):Nat->Slot:=fun t=>if ts.contains (some t)then(match env t with | .d x=> .d x.strip | s=>s)else env t
theorem nM {M M':Mem} {X:Nat->Option mV} {h:Holder} {d:D} (hr:R M bs d x)(hnt:∀cs,d= .tup cs->∀c∈cs,∀ds,c≠ .tup ds):Own w M' bs' X h p d.strip x:=by
 cases d with
 | tup cs =>
  cases hr with
  | tup cs vs hl hr=>
   refine .tup p _ vs fun i d x h3 h4=>?_;rw [cF,dG] at h3;obtain⟨d',h3,rfl⟩:=h3;exact Bk (hr i d' x h3 h4) (hnt cs rfl d' (bE h3))
 | _=>rw [D.strip_of (by intro cs h;cases h)];exact Bk hr (by intro cs h;cases h)
def Ap:Slot->Bool
 | .d (.tup _)=>false
 | _=>true
theorem wM {args:List D} {p:Nat} {d:D} (h:args[p]?=some d):fT args p= .d d:=by simp [fT,h]
theorem Ok.enter {g:Gh} {st:St} (h:Ok w g st val)(args:List D)(vs:Array Value)(ts:List (Option Nat))(hl:vs.size=args.length)
  (ha:∀(p:Nat) (d:D) (v:Value),args[p]?=some d->vs[p]?=some v->R g.M g.bs d v/\
   ((∀X h p,Own w g.M g.bs X h p d v)\/∃t,ts[p]?=some (some t)/\ts.findIdx? (· ==some t)=some p/\st.env t= .d d/\val t=v)):
  Ok w { g with X:=(fun b=>(g.X b).bind (Jy ts)),bl:= [] } (St.ofArgs args st.obj) (cJ vs):=by
 refine⟨h.mem,fun b t hb=>?_,fun t=>?_,rfl,fun n b cs h1 h2=>by simp at h1,h.ol,fun n b cs h1 h2=>?_⟩
 .simp only [mC] at hb;obtain⟨t',hb,_⟩:=hb;exact h.xlt b t' hb
 .show SlotOk w _ t (fT args t) (cJ vs t)
  cases hd:args[t]? with
  | none=>
   simp only [fT,hd];exact⟨.any _,.flat _ _ _ rfl⟩
  | some d=>
   have hlt:t<vs.size:=by rw [hl];exact(aP.1 hd).1
   have hv:vs[t]?=some vs[t]:=bR hlt;have hvv:cJ vs t=vs[t]:=by simp [cJ,hlt]
   rw [wM hd,hvv];obtain⟨hr,ho⟩:=ha t d _ hd hv;refine⟨hr,?_⟩;rcases ho with hall | ⟨s,h1,h2,h3,h4⟩
   .exact hall _ _ _
   have hs:=h.slot s;rw [h3,h4] at hs;refine hs.2.move (fun _ _ _ h=>h) (fun _ _ h=>h) [] fun b q hb=>⟨rfl,fun _ h=>h,?_⟩;simp only [aO] at hb |-;simp [hb,Jy,h2]
 refine(h.obj n b cs h1 h2).keep (fun _ _ _ h=>h) (fun _ _ h=>h) fun b q hb=>⟨rfl,fun _ h=>h,?_⟩;simp [hb,Jy]
theorem Ok.leave {g gr:Gh} {st:St} (h:Ok w g st val)(ts:List (Option Nat))(dst:Option Tmp)(r:D)(x:Value)(σ':List (List D))
  (hf:Fr w { g with X:=(fun b=>(g.X b).bind (Jy ts)),bl:= [] } w' gr) (hr:Ok w' gr (St.ofRes r σ') (fun t=>if t=0 then x else undef))
  (hnt:∀t,some t∈ts->Ap (st.env t)=true):
  ∃g',g'.bl=g.bl/\Fr w g w' g'/\Ok w' g' (({ st with env:=gS ts st.env,obj:=σ' } :St).put dst (.d r)) (xC dst x val):=by
 let Xc:Nat->Option mV:=fun b=>(g.X b).bind (Jy ts)
 let X':Nat->Option mV:=fun b=>if b<w.heap.size/\Xc b=none then g.X b else(gr.X b).bind (aKi dst)
 have hXc:∀b,b<w.heap.size->Xc b=none->w'.heap[b]?=w.heap[b]?/\gr.X b=none/\∀o,gr.M b o=g.M b o:=hf.keep;have hbs:∀(n b:Nat),g.bs[n]?=some b->gr.bs[n]?=some b:=hf.bs;have hM:g.M.le gr.M:=hf.mono
 -- what did not go in is as it was
 have kept:∀(hd:Holder),(∀q,Jy ts (hd,q)=none)->∀(b:Nat) (q:List Nat),g.X b=some (hd,q)->w'.heap[b]?=w.heap[b]?/\(∀o,g.M b o=none->gr.M b o=none)/\X' b=some (hd,q):=by
  intro hd hin b q hb;have hlt:=h.xlt b _ hb;have hc:Xc b=none:=by simp only [Xc,hb,vD];exact hin q
  obtain⟨h1,h2,h3⟩:=hXc b hlt hc;exact⟨h1,fun o ho=>by rw [h3];exact ho,by simp only [X',aK (And.intro hlt hc)];exact hb⟩
 -- what came out has its tag
 have came:∀(b:Nat) (t:mV),gr.X b=some t->X' b=aKi dst t:=by
  intro b t hb;have:¬(b<w.heap.size/\Xc b=none):=fun⟨h1,h2⟩=>by rw [(hXc b h1 h2).2.1] at hb;cases hb
  simp only [X',aD this,hb,vD]
 refine⟨{ M:=gr.M,X:=X',bl:=g.bl,bs:=gr.bs },rfl,⟨hf.os,hf.tape,hf.output,hf.size,fun b hb hx=>?_,hM,hbs⟩,?_⟩
 .have hc:Xc b=none:=by simp only [Xc,hx,Option.bind_none]
  obtain⟨h1,h2,h3⟩:=hXc b hb hc;exact⟨h1,by simp only [X',aK (And.intro hb hc)];exact hx,h3⟩
 have base:Ok w' { M:=gr.M,X:=X',bl:=g.bl,bs:=gr.bs } { st with env:=gS ts st.env,obj:=σ' } val:=by
  refine⟨hr.mem,fun b t hb=>?_,fun t=>?_,h.ll,fun n b cs h1 h2=>(h.loc n b cs h1 h2).keep hM hbs (kept _ (fun q=>rfl)),hr.ol,fun n b cs h1 h2=>?_⟩
  .simp only [X'] at hb;split at hb
   .rename_i hc;have:=hf.size;omega
   simp only [mC] at hb;obtain⟨t',hb,_⟩:=hb;exact hr.xlt b t' hb
  .have hs:=h.slot t;simp only [gS];by_cases hc:ts.contains (some t)=true
   .simp only [hc,aU];have hn:=hnt t (by simpa using hc);cases he:st.env t with
    | lref n off=>
     rw [he] at hs;exact hs
    | d y=>
     rw [he] at hs hn;exact⟨(hs.1.mono hM hbs).strip,nM hs.1 (by intro cs e;subst e;simp [Ap] at hn)⟩
   simp only [hc];refine hs.keep hM hbs (fun _ _ h=>h) (kept _ fun q=>?_);simp only [Jy,Option.map_eq_none_iff,qJ];intro y hy;cases y with
   | none=>rfl
   | some u=>
    by_cases e:u=t
    .subst e;exact absurd (by simpa using hy) hc
    simp [e]
  exact(hr.obj n b cs h1 h2).keep (fun _ _ _ h=>h) (fun _ _ h=>h) fun b q hb=>⟨rfl,fun _ h=>h,(came b _ hb).trans rfl⟩
 refine base.put dst (.d r) x fun t ht=>?_;have hs:=hr.slot 0;have hs':R gr.M gr.bs r x/\Own w' gr.M gr.bs gr.X (.slot 0) [] r x:=hs;refine⟨hs'.1,hs'.2.move (fun _ _ _ h=>h) (fun _ _ h=>h) [] fun b q hb=>⟨rfl,fun _ h=>h,?_⟩⟩;simp only [aO] at hb |-;subst ht;exact(came b _ hb).trans rfl
end Go.Vm
