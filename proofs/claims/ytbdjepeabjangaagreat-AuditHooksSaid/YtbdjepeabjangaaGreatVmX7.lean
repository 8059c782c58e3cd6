import Derived.Test.YtbdjepeabjangaaGreatVm22
import Derived.Test.YtbdjepeabjangaaGreatVmX6
set_option linter.all false
namespace Go.Vm
open Go
variable {P:Program}{Q:Exit->St->Prop}{c:Code}{cs:List D}{g:Gh}{l:List (Nat×Slot)}{loc obj:List (List D)}{n:Nat}{st:St}{val:Nat->Value}{w:World}
variable {rr:Option Nat} {dfr:List Deferred}
theorem Ok.openXO_aux (h : Ok w g st val) {m i b0 : Nat} {news:List D} {d0 d1 : D} {X' : Nat -> Option jK}
    (hm:st.obj[m]?=some cs) (hi:cs[i]?=some d0)
    (ho1:∀(b':Nat) (t:jK),g.X b'=some t->t≠(.obj m, [i])->X' b'=some t) (ho2:∀b',g.X b'=none->X' b'=none) (ho3:∀(b':Nat) (t:jK),X' b'=some t->b'<w.heap.size)
    (hrs:∀(b:Nat) (cur:Array Value) (E:TypeId) (v:Value),g.bs[m]?=some b->w.heap[b]?=some (.cells cur E (0,0))->cur[i]?=some v->R g.M (g.bs++ [b0]) d1 v) (hfl:d1.flat=true)
    (hbox:∀(g':Gh),g'= { g with X:=X',bs:=g.bs++ [b0] } ->BoxOk w g' (.obj st.obj.length) b0 news):
    ∃g':Gh,g'.bl=g.bl/\Fr w g w g'/\Ok w g' { st with obj:=st.obj.set m (cs.set i d1)++ [news] } val:=by
  have hml:=(aH.1 hm).1;have hbs:∀(n b':Nat),g.bs[n]?=some b'->(g.bs++ [b0])[n]?=some b':=fun n b' hb=>by
    rw [aU (by exact(aH.1 hb).1)];exact hb
  have other:∀(hd:Holder),hd≠ .obj m->∀(b':Nat) (q:List Nat),g.X b'=some (hd,q)->w.heap[b']?=w.heap[b']?/\(∀o,g.M b' o=none->g.M b' o=none)/\X' b'=some (hd,q):=
    fun hd hne b' q hx=>⟨rfl,fun _ h=>h,ho1 b' _ hx (by intro e;simp only [fK] at e;exact hne e.1)⟩
  refine⟨{ g with X:=X',bs:=g.bs++ [b0] },rfl,⟨rfl,rfl,rfl,bD _,fun b' hb' hx=>⟨rfl,ho2 b' hx,fun _=>rfl⟩,fun _ _ _ h=>h,hbs⟩,h.mem,ho3,fun u=>?_,h.ll,fun n b' cs h1 h2=>(h.loc n b' cs h1 h2).keep (fun _ _ _ h=>h) hbs (other _ (by simp)),by simp [h.ol],fun n b' cs' h1 h2=>?_⟩
  . exact(h.slot u).keep (fun _ _ _ h=>h) hbs (fun _ _ h=>h) (other _ (by simp))
  by_cases hn:n<st.obj.length
  . have h1' : g.bs[n]? = some b' := by rw [aU (by rw [h.ol]; exact hn)] at h1; exact h1
    have h2':(st.obj.set m (cs.set i d1))[n]?=some cs':=by rw [aU (by simpa using hn)] at h2;exact h2
    rw [bS] at h2';split at h2'
    . rename_i e
      subst e;simp only [aP] at h2';subst h2';have hne:cs≠ []:=by rintro rfl;simp at hi
      obtain⟨cur,E,m1,m2,m3,m4,m5⟩:=(h.obj m b' cs h1' hm).resolve_left hne;refine .inr ⟨cur,E,m1,by simpa using m2,ho1 _ _ m3 (by simp),m4,fun j d x a1 a2=>?_⟩;rw [bS] at a1;split at a1
      . rename_i e
        subst e;have hil:=(aH.1 hi).1;have hd:d1=d:=by first | (simpa [hil] using a1) | exact a1
        subst hd;obtain⟨r1,r2,r3⟩:=m5 i d0 x hi a2;exact⟨hrs b' cur E x h1' m1 a2,.flat _ _ _ hfl,r3⟩
      rename_i e;obtain⟨r1,r2,r3⟩:=m5 j d x a1 a2;refine⟨r1.mono (fun _ _ _ h=>h) hbs,r2.move (fun _ _ _ h=>h) hbs [j] (fun b2 q hX=>⟨rfl,fun _ h=>h,ho1 b2 _ hX (by intro e2;simp at e2;exact e e2.1.symm)⟩),r3⟩
    rename_i e;exact(h.obj n b' cs' h1' h2').keep (fun _ _ _ h=>h) hbs (other _ (by simp;exact fun e'=>e e'.symm))
  have hlt:=(aH.1 h2).1;simp at hlt;have hn':n=st.obj.length:=by omega
  subst hn';have e1:b'=b0:=by
    have h1':=h1;rw [<- h.ol] at h1';simpa using h1'.symm
  have e2:cs'=news:=by
    rw [bI (by simp)] at h2;simpa using h2.symm
  subst e1;subst e2;exact hbox _ rfl
theorem Ok.openXO (h : Ok w g st val) (m i k : Nat) (es cs : List D) (hm : st.obj[m]? = some cs) (hi : cs[i]? = some (.xs k es)) (hk0 : 0 < k) :
    ∃ (cap : Nat) (rest : List D) (g' : Gh), es.length <= cap /\ cap <= maxLen /\ rest.length = (cap - es.length) * k /\ (∀ d ∈ es, d.ncells = k /\ d.arr = true) /\ g'.bl = g.bl /\ Fr w g w g' /\
      Ok w g' { st with obj:=st.obj.set m (cs.set i (.slo st.obj.length 0 es.length cap))++ [es.flatMap D.cells++rest] } val:=by
  have hml:=(aH.1 hm).1;obtain⟨bm,hbm⟩:∃bm,g.bs[m]?=some bm:=⟨_,aN (by rw [h.ol];exact hml)⟩;have hne:cs≠ []:=by rintro rfl;simp at hi
  obtain⟨curm,Em,m1,m2,m3,m4,m5⟩:=(h.obj m bm cs hbm hm).resolve_left hne;have hil:=(aH.1 hi).1;obtain⟨v,hvi⟩:∃v,curm[i]?=some v:=⟨_,aV (by rw [m2];exact hil)⟩;obtain⟨hr,ho,hone⟩:=m5 i _ v hi hvi;have hO:Ou w g.M g.bs g.X (.obj m, [i]) k es v:=by
    cases ho with
    | xs p k es v ho=>exact ho
    | flat p d v hf=>simp [D.flat] at hf
  rcases hO with ⟨rfl,a,hv⟩ | ⟨b,n,cap,cur,E,hv,o1,o2,o3,o4,o5,o6,o7,o8,o9,o10,o11⟩
  . have huniq : ∀ (b : Nat) (cur : Array Value) (E : TypeId) (v' : Value), g.bs[m]? = some b -> w.heap[b]? = some (.cells cur E (0, 0)) -> cur[i]? = some v' -> v' = v := by
      intro b cur E v' e1 e2 e3;rw [hbm] at e1;simp only [aP] at e1;subst e1;rw [m1] at e2;simp only [aP,Obj.cells.injEq] at e2;rw [<- e2.1,hvi] at e3;simpa using e3.symm
    obtain⟨g',q1,q2,q3⟩:=h.openXO_aux (d1:= .slo st.obj.length 0 0 0) (b0:=0) (news:= []) (X':=g.X) hm hi (fun b' t hx _=>hx) (fun _ h=>h) h.xlt (fun b cur E v' e1 e2 e3=>by
      rw [huniq b cur E v' e1 e2 e3,hv];exact .slo _ _ _ _ _ (fun h=>absurd h (by simp)) (by simp) (by simp)) rfl (fun g' _=> .inl rfl)
    exact⟨0, [],g',by simp,by simp,by simp,by simp,q1,q2,q3⟩
  have huniq:∀(b:Nat) (cur:Array Value) (E:TypeId) (v':Value),g.bs[m]?=some b->w.heap[b]?=some (.cells cur E (0,0))->cur[i]?=some v'->v'=v:=by
    intro b cur E v' e1 e2 e3;rw [hbm] at e1;simp only [aP] at e1;subst e1;rw [m1] at e2;simp only [aP,Obj.cells.injEq] at e2;rw [<- e2.1,hvi] at e3;simpa using e3.symm
  subst o5;have hlen:∀d∈es,d.cells.length=k:=fun d hd=>by
    obtain⟨i,hi⟩:=dY hd;rw [dK];exact(o10 i d hi).1
  have hfl:=nF es hlen;have hsub:es.length * k+(cap - es.length) * k=cap * k:=by rw [<- cB];congr 1;omega
  have hbs:∀(n b':Nat),g.bs[n]?=some b'->(g.bs++ [b])[n]?=some b':=fun n b' hb=>by
    rw [aU (by exact(aH.1 hb).1)];exact hb
  obtain⟨g',q1,q2,q3⟩:=h.openXO_aux (d1:= .slo st.obj.length 0 es.length cap) (b0:=b) (news:=es.flatMap D.cells++List.replicate ((cap - es.length) * k) .any) (X':=eZ b (.obj st.obj.length, []) g.X) hm hi
    (fun b' t hx ht=>by
      have:b'≠b:=by intro e;subst e;rw [o1] at hx;simp only [aP] at hx;exact ht hx.symm
      simp only [eZ,aG this];exact hx)
    (fun b' hx=>by
      have:b'≠b:=by intro e;subst e;rw [o1] at hx;cases hx
      simp only [eZ,aG this];exact hx)
    (fun b' t hx=>by
      by_cases e:b'=b
      . subst e;exact h.xlt _ _ o1
      simp only [eZ,aG e] at hx;exact h.xlt b' t hx)
    (fun b2 cur E v' e1 e2 e3=>by
      rw [huniq b2 cur E v' e1 e2 e3,hv];exact .slo _ _ _ _ _ (fun _=>⟨b,by rw [<- h.ol];simp,rfl⟩) o6 o7) rfl (fun g' hg=>by
      subst hg;refine .inr ⟨cur,E,o2,?_,by simp [eZ],o8,fun i d x a1 a2=>?_⟩
      . rw [aX,hfl,cW,hsub,o4]
      have h1c:=o9 i x a2;by_cases hi:i<es.length * k
      . rw [aU (by rw [hfl]; exact hi), qJ o3 es hlen, jE] at a1
        obtain⟨d0,b1,b2⟩:=a1;obtain⟨y,y1,y2⟩:=o11 _ d0 _ d b1 b2;have:i / k * k+i % k=i:=by rw [lN];exact sZ i k
        rw [this,a2] at y1;have hyx:y=x:=by simpa using y1.symm
        subst hyx;have harr:=(o10 _ d0 b1).2;have hf:d.flat=true:=by
          unfold D.arr at harr;rw [eJ] at harr;exact harr d (aS b2)
        exact⟨y2.mono (fun _ _ _ h=>h) hbs,.flat _ _ _ hf,h1c⟩
      rw [bI (by rw [hfl];omega)] at a1;have hd:d= .any:=lW (aS a1);subst hd;exact⟨.any _,.flat _ _ _ rfl,h1c⟩)
  exact⟨cap,_,g',o6,o7,by simp,fun d hd=>by
    obtain⟨i,hi⟩:=dY hd;exact o10 i d hi,q1,q2,q3⟩
theorem Ok.closeXO (h:Ok w g st val)(m i k N len cap:Nat)(es cs ds:List D)(hm:st.obj[m]?=some cs)(hi:cs[i]?=some (.slo N 0 len cap))(hN:st.obj[N]?=some ds)(hmN:m≠N)(hk:0<k)(hcs:ds.length=cap * k)(hl:es.length=len)
    (hes:∀d∈es,d.ncells=k/\d.arr=true) (he:es.flatMap D.cells<+:ds):
    ∃g':Gh,g'.bl=g.bl/\Fr w g w g'/\Ok w g' { st with obj:=(st.obj.set m (cs.set i (.xs k es))).set N [] } val:=by
  have hml:=(aH.1 hm).1;have hNl:=(aH.1 hN).1;obtain⟨bm,hbm⟩:∃bm,g.bs[m]?=some bm:=⟨_,aN (by rw [h.ol];exact hml)⟩;obtain⟨b,hbN⟩:∃b,g.bs[N]?=some b:=⟨_,aN (by rw [h.ol];exact hNl)⟩;have hne:cs≠ []:=by rintro rfl;simp at hi
  obtain⟨curm,Em,m1,m2,m3,m4,m5⟩:=(h.obj m bm cs hbm hm).resolve_left hne;have hil:=(aH.1 hi).1;obtain⟨v,hvi⟩:∃v,curm[i]?=some v:=⟨_,aV (by rw [m2];exact hil)⟩;obtain⟨hr,_,hone⟩:=m5 i _ v hi hvi;have hlen:∀d∈es,d.cells.length=k:=fun d hd=>by rw [dK];exact(hes d hd).1
  -- the tags
  obtain⟨X',t1,t2,t3,t4⟩:∃X':Nat->Option jK,(∀(b':Nat) (t:jK),g.X b'=some t->t.1≠ .obj N->X' b'=some t)/\(∀b',g.X b'=none->X' b'=none)/\(∀(b':Nat) (t:jK),X' b'=some t->b'<w.heap.size)/\
      (R g.M g.bs (.xs k es) v/\Ou w g.M g.bs X' (.obj m, [i]) k es v):=by
    cases hr with
    | slo _ _ _ _ x hb hc hmx=>
    rcases sL cap with hc0 | hcap0
    . subst hc0
      have hl0:len=0:=by omega
      subst hl0;have hes0:es= []:=jW hl;subst hes0;exact⟨g.X,fun _ _ h _=>h,fun _ h=>h,h.xlt,.xs k [] _ _ 0 rfl (bD _) hmx (fun _=>⟨rfl,rfl⟩),.inl ⟨rfl,_,rfl⟩⟩
    obtain⟨b',hb2,rfl⟩:=hb hcap0;have ebb:b'=b:=by rw [hbN] at hb2;simpa using hb2.symm
    subst ebb;have hdne:ds≠ []:=by
      intro e;rw [e] at hcs;have:0<cap * k:=lU hcap0 hk;simp at hcs;omega
    obtain⟨cur,E,o1,o2,o3,o4,o5⟩:=(h.obj N b' ds hb2 hN).resolve_left hdne;refine⟨eZ b' (.obj m, [i]) g.X,fun b2 t hx ht=>?_,fun b2 hx=>?_,fun b2 t hx=>?_,.xs k es _ _ cap hl.symm (by omega) hmx (by simp),.inr ⟨b',len,cap,cur,E,rfl,by simp [eZ],o1,hk,by rw [o2,hcs],hl.symm,hc,hmx,o4,fun o c ho=>?_,fun i d hi=>hes d (aS hi),fun i d j e a1 a2=>?_⟩⟩
    . have : b2 ≠ b' := by intro e; subst e; rw [o3] at hx; simp only [aP] at hx; subst hx; exact ht rfl
      simp only [eZ,aG this];exact hx
    . have : b2 ≠ b' := by intro e; subst e; rw [o3] at hx; cases hx
      simp only [eZ,aG this];exact hx
    . by_cases e : b2 = b'
      . subst e;exact h.xlt _ _ o3
      simp only [eZ,aG e] at hx;exact h.xlt b2 t hx
    . have hlt := (cZ.1 ho).1
      rw [o2] at hlt;exact(o5 o _ c (aN hlt) ho).2.2
    have hcell:=wT hk es hlen a1 a2;obtain⟨rest,hrest⟩:=he;have hcc:ds[i * k+j]?=some e:=by
      rw [<- hrest,aU (by exact(aH.1 hcell).1)];exact hcell
    have hlt:=(aH.1 hcc).1;rw [<- o2] at hlt;exact⟨_,aV hlt,(o5 _ e _ hcc (aV hlt)).1⟩
  have other:∀(hd:Holder),hd≠ .obj N->∀(b':Nat) (q:List Nat),g.X b'=some (hd,q)->w.heap[b']?=w.heap[b']?/\(∀o,g.M b' o=none->g.M b' o=none)/\X' b'=some (hd,q):=
    fun hd hne b' q hx=>⟨rfl,fun _ h=>h,t1 b' _ hx hne⟩
  refine⟨{ g with X:=X' },rfl,⟨rfl,rfl,rfl,bD _,fun b' hb' hx=>⟨rfl,t2 b' hx,fun _=>rfl⟩,fun _ _ _ h=>h,fun _ _ h=>h⟩,h.mem,t3,fun u=>?_,h.ll,fun n b' cs h1 h2=>(h.loc n b' cs h1 h2).keep (fun _ _ _ h=>h) (fun _ _ h=>h) (other _ (by simp)),by simp [h.ol],fun n b' cs' h1 h2=>?_⟩
  . exact(h.slot u).keep (fun _ _ _ h=>h) (fun _ _ h=>h) (fun _ _ h=>h) (other _ (by simp))
  by_cases enN:n=N
  . subst enN
    exact .inl (by simpa [hNl] using h2.symm)
  by_cases enm:n=m
  . subst enm
    have h2':cs.set i (.xs k es)=cs':=by
      rw [bS,aG (fun e=>enN e.symm),bS] at h2;simpa [hml] using h2
    subst h2';have ebm:b'=bm:=by rw [hbm] at h1;simpa using h1.symm
    subst ebm;refine .inr ⟨curm,Em,m1,by simpa using m2,t1 _ _ m3 (by simp;exact enN),m4,fun j d x a1 a2=>?_⟩;rw [bS] at a1;split at a1
    . rename_i e
      subst e;have hd:D.xs k es=d:=by first | (simpa [hil] using a1) | exact a1
      subst hd;have hx:x=v:=by rw [hvi] at a2;simpa using a2.symm
      subst hx;exact⟨t4.1,.xs _ _ _ _ t4.2,hone⟩
    obtain⟨r1,r2,r3⟩:=m5 j d x a1 a2;exact⟨r1,r2.keep (fun _ _ _ h=>h) (fun _ _ h=>h) (other _ (by simp;exact enN)),r3⟩
  have h2':st.obj[n]?=some cs':=by
    rw [bS,aG (fun e=>enN e.symm),bS,aG (fun e=>enm e.symm)] at h2;exact h2
  exact(h.obj n b' cs' h1 h2').keep (fun _ _ _ h=>h) (fun _ _ h=>h) (other _ (by simp;exact enN))
theorem Ok.toXO (h : Ok w g st val) (m i k : Nat) (cs : List D) (hm : st.obj[m]? = some cs) (hi : cs[i]? = some (.sl true [])) :
    Ok w g { st with obj:=st.obj.set m (cs.set i (.xs k [])) } val:=by
  have hml:=(aH.1 hm).1;refine⟨h.mem,h.xlt,h.slot,h.ll,h.loc,by simp [h.ol],fun n b cs' h1 h2=>?_⟩;rw [bS] at h2;split at h2
  . rename_i e
    subst e;simp only [aP] at h2;subst h2;have hne:cs≠ []:=by rintro rfl;simp at hi
    obtain⟨cur,E,m1,m2,m3,m4,m5⟩:=(h.obj m b cs h1 hm).resolve_left hne;refine .inr ⟨cur,E,m1,by simpa using m2,m3,m4,fun j d x a1 a2=>?_⟩;rw [bS] at a1;split at a1
    . rename_i e
      subst e;have hil:=(aH.1 hi).1;have hd:D.xs k []=d:=by first | (simpa [hil] using a1) | exact a1
      subst hd;obtain⟨r1,r2,r3⟩:=m5 i _ x hi a2;obtain⟨a,rfl⟩:∃a,x= .slice a 0 0:=by
        have hO:Rr w g.M g.X (.obj m, [i]) [] x:=by
          cases r2 with
          | sl p es v ho=>exact ho
          | flat p d v hf=>simp [D.flat] at hf
        rcases hO with ⟨a,n,rfl⟩ | ⟨b,n,cap,k',cur,E,_,hc,_⟩
        . cases r1 with
          | nil=>exact⟨_,rfl⟩
          | emp o a' cap hm'=>exact⟨_,rfl⟩
          | sl o' es' b off n' cap k vs hl hn hk hc => have hn0 : n = 0 := by simpa using hn
                                                       subst hn0;exact⟨_,rfl⟩
        exact absurd rfl hc
      exact⟨.xs k [] a 0 0 rfl (bD _) (cH _) (fun _=>⟨rfl,rfl⟩),.xs _ _ _ _ (.inl ⟨rfl,a,rfl⟩),r3⟩
    exact m5 j d x a1 a2
  exact h.obj n b cs' h1 h2
def Ss:List D->List D->Prop
  | [], []=>True
  | a::r,b::q=>(b=a\/b=a.s1)/\Ss r q
  | _,_=>False
theorem aCq:∀ {cs cs':List D},Ss cs cs'->cs'.length=cs.length/\∀(i:Nat) (d':D),cs'[i]?=some d'->∃d,cs[i]?=some d/\(d'=d\/d'=d.s1)
  | [], [],_=>⟨rfl,fun i d' h=>by simp at h⟩
  | [],_::_,h=>h.elim
  | _::_, [],h=>h.elim
  | a :: r, b :: q, h => by
    obtain⟨h1,h2⟩:=h;obtain⟨l1,l2⟩:=aCq h2;refine⟨by simp [l1],fun i d' h=>?_⟩
    match i with
    | 0=>simp at h;subst h;exact⟨a,rfl,h1⟩
    | i+1=>exact l2 i d' (by simpa using h)
theorem Ok.weakO (h:Ok w g st val)(m:Nat)(cs cs':List D)(hm:st.obj[m]?=some cs)(hw:Ss cs cs'):Ok w g { st with obj:=st.obj.set m cs' } val:=by
  obtain⟨hl,hc⟩:=aCq hw;refine⟨h.mem,h.xlt,h.slot,h.ll,h.loc,by simp [h.ol],fun n b cs2 h1 h2=>?_⟩;rw [bS] at h2;split at h2
  . rename_i e
    subst e;split at h2
    . simp only [aP] at h2
      subst h2;rcases h.obj m b cs h1 hm with h0 | ⟨cur,E,m1,m2,m3,m4,m5⟩
      . left;subst h0;exact jW hl
      refine .inr ⟨cur,E,m1,by rw [hl];exact m2,m3,m4,fun j d x a1 a2=>?_⟩;obtain⟨d0,b1,b2⟩:=hc j d a1;obtain⟨r1,r2,r3⟩:=m5 j d0 x b1 a2;rcases b2 with rfl | rfl
      . exact⟨r1,r2,r3⟩
      exact⟨r1.s1,Hp r1 r3,r3⟩
    cases h2
  exact h.obj n b cs2 h1 h2
theorem aCa (m i k:Nat) (hm:obj[m]?=some cs)(hi:cs[i]?=some (.sl true []))
    (h:dL rr dfr P c Q (St.mk' n l loc (obj.set m (cs.set i (.xs k []))))):dL rr dfr P c Q (St.mk' n l loc obj):=by
  intro w0 g0 w g tmps hf hok hn;exact h w0 g0 w g tmps hf (hok.toXO m i k cs hm hi) hn
theorem kC (m:Nat)(cs':List D) (hm:obj[m]?=some cs)(hw:Ss cs cs')
    (h:dL rr dfr P c Q (St.mk' n l loc (obj.set m cs'))):dL rr dfr P c Q (St.mk' n l loc obj):=by
  intro w0 g0 w g tmps hf hok hn;exact h w0 g0 w g tmps hf (hok.weakO m cs cs' hm hw) hn
theorem Bm (ts k:Nat) (hs:dM l ts= .d (.sl true []))
    (h:dL rr dfr P c Q (St.mk' n ((ts,.d (.xs k []))::l) loc obj)):dL rr dfr P c Q (St.mk' n l loc obj):=by
  intro w0 g0 w g tmps hf hok hn;have hsl:=hok.slot ts;have hs':(St.mk' n l loc obj).env ts= .d (.sl true []):=hs;rw [hs'] at hsl;obtain⟨hO,_,a,m,cap,hv,hm,ha⟩:=Bi (k:=k) (es:= []) (.inr (.inl ⟨rfl,rfl⟩)) hsl;have hR:R g.M g.bs (.xs k []) (bQ tmps ts):=by
    rcases hO with ⟨_,a',e1⟩ | ⟨b,n',cap',cur,E,e1,o1,o2,o3,o4,o5,o6,o7,_⟩
    . rw [e1];exact .xs k [] a' 0 0 rfl (bD _) (cH _) (fun _=>⟨rfl,rfl⟩)
    rw [e1];exact .xs k [] _ _ _ o5 o6 o7 (by simp)
  have hok2:=hok.set ts (.d (.xs k [])) (bQ tmps ts) ⟨hR,.xs _ _ _ _ hO⟩;have efun:(fun u=>if u=ts then bQ tmps ts else bQ tmps u)=bQ tmps:=by
    funext u;by_cases hu:u=ts <;> simp [hu]
  rw [efun] at hok2;exact h w0 g0 w g tmps hf hok2 hn
theorem Ck (m i k:Nat) {es:List D} (hm:obj[m]?=some cs)(hi:cs[i]?=some (.xs k es))(hk0:0<k)
    (h:∀(cap:Nat) (rest:List D),es.length<=cap->cap<=maxLen->rest.length=(cap - es.length) * k->(∀d∈es,d.ncells=k/\d.arr=true)->dL rr dfr P c Q (St.mk' n l loc (obj.set m (cs.set i (.slo obj.length 0 es.length cap))++ [es.flatMap D.cells++rest]))):dL rr dfr P c Q (St.mk' n l loc obj):=by
  intro w0 g0 w g tmps hf hok hn;obtain⟨cap,rest,g',a1,a2,a3,a4,_,hfr,hok'⟩:=hok.openXO m i k es cs hm hi hk0;exact h cap rest a1 a2 a3 a4 w0 g0 w g' tmps (hf.trans hfr) hok' hn
theorem zK (m i k N len cap:Nat)(es cs ds:List D) (hm:obj[m]?=some cs)(hi:cs[i]?=some (.slo N 0 len cap))(hN:obj[N]?=some ds)(hmN:m≠N)(hk:0<k)(hcs:ds.length=cap * k)(hl:es.length=len)
    (hes:∀d∈es,d.ncells=k/\d.arr=true) (he:es.flatMap D.cells<+:ds) (h:dL rr dfr P c Q (St.mk' n l loc ((obj.set m (cs.set i (.xs k es))).set N []))):dL rr dfr P c Q (St.mk' n l loc obj):=by
  intro w0 g0 w g tmps hf hok hn;obtain⟨g',_,hfr,hok'⟩:=hok.closeXO m i k N len cap es cs ds hm hi hN hmN hk hcs hl hes he;exact h w0 g0 w g' tmps (hf.trans hfr) hok' hn
theorem Ct.closeXO {f:FuncId} {args:List D} {σ:List (List D)} {Q Q':D->List (List D)->Prop} (h:Ct P f args σ Q)
    (hq:∀r σ',Q r σ'->∃(m i k N len cap:Nat) (es cs ds:List D),(σ'[m]?=some cs/\cs[i]?=some (.slo N 0 len cap)/\σ'[N]?=some ds/\m≠N/\0<k/\ds.length=cap * k/\es.length=len/\(∀d∈es,d.ncells=k/\d.arr=true)/\es.flatMap D.cells<+:ds)/\Q' r ((σ'.set m (cs.set i (.xs k es))).set N [])):Ct P f args σ Q':=by
  refine⟨h.1,fun w g vs hs hb ho=>(h.2 w g vs hs hb ho).mono ?_⟩;rintro e w' ⟨r,σ',x,g',rfl,hQ,hb',hf,hk⟩;obtain⟨m,i,k,N,len,cap,es,cs,ds,⟨a1,a2,a3,a4,a5,a6,a7,a8,a9⟩,hQ'⟩:=hq r σ' hQ;obtain⟨g2,b1,b2,b3⟩:=hk.closeXO m i k N len cap es cs ds a1 a2 a3 a4 a5 a6 a7 a8 a9;exact⟨r,_,x,g2,rfl,hQ',b1.trans hb',hf.trans b2,b3⟩
theorem Ok.mapToCell (h:Ok w g st val)(t m i N:Nat)(kd:TypeDesc)(clock:Nat)(kvs:List (Value×Nat×D))(cs:List D)(hs:st.env t= .d (.mp N kd clock kvs))(hm:st.obj[m]?=some cs)(hi:cs[i]?=some (.mref N)):
    ∃g':Gh,g'.bl=g.bl/\Fr w g w g'/\Ok w g' { st.set t (.d (.mref N))with obj:=st.obj.set m (cs.set i (.mp N kd clock kvs)) } val:=by
  have hsl:=h.slot t;rw [hs] at hsl;obtain⟨hr,ho⟩:=hsl;generalize hv:val t=v at hr ho;cases ho with
  | flat _ _ _ hf=>simp [D.flat] at hf
  | mp _ _ _ _ _ _ ho=>
  obtain⟨b,es,rfl,e1,e2,e3,e4,e5,e6,e7⟩:=ho;have hml:=(aH.1 hm).1;obtain⟨bm,hbm⟩:∃bm,g.bs[m]?=some bm:=⟨_,aN (by rw [h.ol];exact hml)⟩;have hne:cs≠ []:=by rintro rfl;simp at hi
  obtain⟨cur,E,o1,o2,o3,o4,o5⟩:=(h.obj m bm cs hbm hm).resolve_left hne;have hil:=(aH.1 hi).1;obtain⟨x,hx⟩:∃x,cur[i]?=some x:=⟨_,aV (by rw [o2];exact hil)⟩;have hxv:x= .map (some b):=by
    obtain⟨r1,_,_⟩:=o5 i _ x hi hx;cases r1 with
    | mref _ b' hb'=>rw [e1] at hb';simp at hb';rw [hb']
  have hbb:bm≠b:=by rintro rfl;rw [o1] at e3;cases e3
  have other:∀(hd:Holder) (b':Nat) (q:List Nat),(hd,q)≠(Holder.slot t, [])->g.X b'=some (hd,q)->w.heap[b']?=w.heap[b']?/\(∀o,g.M b' o=none->g.M b' o=none)/\eZ b (.obj m, [i]) g.X b'=some (hd,q):=fun hd b' q hn hx=>by
    refine⟨rfl,fun _ h=>h,?_⟩;have:b'≠b:=by rintro rfl;rw [e2] at hx;simp only [aP] at hx;exact hn hx.symm
    simp only [eZ,aG this];exact hx
  refine⟨{ g with X:=eZ b (.obj m, [i]) g.X },rfl,⟨rfl,rfl,rfl,bD _,fun b' hb' hx=>⟨rfl,?_,fun _=>rfl⟩,fun _ _ _ h=>h,fun _ _ h=>h⟩,?_⟩
  . have : b' ≠ b := by rintro rfl; rw [e2] at hx; cases hx
    show eZ b (.obj m, [i]) g.X b'=none
    simp only [eZ,aG this];exact hx
  refine⟨h.mem,fun b' t' hx=>?_,fun u=>?_,h.ll,fun n b' cs h1 h2=>(h.loc n b' cs h1 h2).keep (fun _ _ _ h=>h) (fun _ _ h=>h) (fun b' q=>other _ b' q (by simp)),by simp [h.ol],fun n b' cs' h1 h2=>?_⟩
  . by_cases e : b' = b
    . subst e;exact h.xlt _ _ e2
    simp only [eZ,aG e] at hx;exact h.xlt b' t' hx
  . simp only [St.set]
    by_cases hu:u=t
    . subst hu
      simp only [aJ];rw [hv];exact⟨.mref _ b e1,.flat _ _ _ rfl⟩
    simp only [hu,aZ];exact(h.slot u).keep (fun _ _ _ h=>h) (fun _ _ h=>h) (fun _ _ h=>h) (fun b' q=>other _ b' q (by simp [hu]))
  have h2':(st.obj.set m (cs.set i (.mp N kd clock kvs)))[n]?=some cs':=h2;rw [bS] at h2';by_cases e:m=n
  . subst e
    simp only [aJ,hml] at h2';have eds:cs.set i (.mp N kd clock kvs)=cs':=by simpa using h2'
    subst eds;have ebm:b'=bm:=by rw [hbm] at h1;simpa using h1.symm
    subst ebm;refine .inr ⟨cur,E,o1,by simpa using o2,(other _ _ _ (by simp) o3).2.2,o4,fun j d y c1 c2=>?_⟩;rw [bS] at c1;by_cases ej:i=j
    . subst ej
      simp only [aJ,hil] at c1;have ed:D.mp N kd clock kvs=d:=by simpa using c1
      subst ed;have ey:y=x:=by rw [hx] at c2;simpa using c2.symm
      subst ey;subst hxv;exact⟨.mp _ _ _ b _ e1,.mp _ _ _ _ _ _ ⟨b,es,rfl,e1,by simp [eZ],e3,e4,e5,e6,e7⟩,rfl⟩
    rw [aG ej] at c1;obtain⟨r1,r2,r3⟩:=o5 j d y c1 c2;exact⟨r1,r2.move (fun _ _ _ h=>h) (fun _ _ h=>h) [j] fun b'' q hq=>other _ b'' _ (by simp) hq,r3⟩
  rw [aG e] at h2';exact(h.obj n b' cs' h1 h2').keep (fun _ _ _ h=>h) (fun _ _ h=>h) (fun b' q=>other _ b' q (by simp))
theorem pJ (t m i:Nat) {N:Nat} {kd:TypeDesc} {clock:Nat} {kvs:List (Value×Nat×D)} (ht:dM l t= .d (.mp N kd clock kvs))(hm:obj[m]?=some cs)(hi:cs[i]?=some (.mref N))
    (h:dL rr dfr P c Q (St.mk' n ((t,.d (.mref N))::l) loc (obj.set m (cs.set i (.mp N kd clock kvs))))):dL rr dfr P c Q (St.mk' n l loc obj):=by
  intro w0 g0 w g tmps hf hok hn;obtain⟨g',_,hfr,hok'⟩:=hok.mapToCell t m i N kd clock kvs cs ht hm hi;exact h w0 g0 w g' tmps (hf.trans hfr) hok' hn
end Go.Vm
