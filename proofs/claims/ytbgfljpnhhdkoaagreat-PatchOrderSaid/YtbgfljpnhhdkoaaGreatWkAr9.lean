import Derived.Test.YtbgfljpnhhdkoaaGreatWkAr8
open Go.Proofs.Tryz
namespace Go.Proofs.YtbgfljpnhhdkoaaGreat
open Go Go.Vm
set_option maxRecDepth 20000
set_option linter.all false
set_option maxHeartbeats 8000000
structure EN where
 n:ND
 o:Nat
 t:Nat
structure DS where
 most:Int
 next:Int
 ck:Nat
 es:List EN
abbrev DS.l(d:DS):List ND:=d.es.map EN.n
abbrev DS.x(d:DS):RD:=⟨d.most,d.next,d.l⟩
abbrev eG(n:ND):List D:= [D.int n.ID,D.int n.kind,D.str n.tag,D.str n.text,.sl false (n.classes.map D.str),.sl false (n.attrs.map cZ),.sl false (n.styles.map cX),D.int n.parent,.xs 1 (n.kids.map D.int)]
abbrev aMf(n:ND):List D:= [D.int n.ID,D.int n.kind,D.str n.tag,D.str n.text,.sl true (n.classes.map D.str),.sl true (n.attrs.map cZ),.sl true (n.styles.map cX),D.int n.parent,.sl false (n.kids.map D.int)]
def Hd(e:EN):Value×Nat×D:=(.int .i64 e.n.ID,e.t,.ref e.o 0)
abbrev mX(M:Nat)(d:DS):List D:= [D.int d.most,D.int d.next,.mp M (.int .i64) d.ck (d.es.map Hd)]
structure DO(m M:Nat)(d:DS)(σ:List (List D)):Prop where
 hm:σ[m]?=some (mX M d)
 hn:∀e∈d.es,σ[e.o]?=some (eG e.n)
 nm:∀e∈d.es,e.o≠m
 nd:(d.es.map EN.o).Nodup
 hM:M<σ.length
theorem iZ(k:Int):MapKept.IsKey (.int .i64) (.int .i64 k):=rfl
theorem Fg {σ:List (List D)} {m:Nat} {cs:List D} (h:σ[m]?=some cs)(i N:Nat)(kd:TypeDesc)(ck:Nat)(kvs:List (Value×Nat×D)):putM σ m i N kd ck kvs=σ.set m (cs.set i (.mp N kd ck kvs)):=by
 unfold putM;rw [List.getD_eq_getElem?_getD,h];rfl
theorem fH {es:List EN} {e:EN} (he:e∈es)(z:D):wE (es.map Hd) (.int .i64 e.n.ID) z (.ref e.o 0) true:=by
 obtain⟨j,hj,rfl⟩:=List.getElem_of_mem he;exact .inl ⟨rfl,j,es[j].t,by rw [List.getElem?_map,List.getElem?_eq_getElem hj];rfl⟩
theorem rJ {l:List ND} {id:Int} (h:dF l id=false):∀n∈l,n.ID≠id:=by
 intro n hn e;unfold dF gV at h;have:(l.find? fun n=>decide (n.ID=id))=none:=by simpa using h
 rw [List.find?_eq_none] at this;exact this n hn (by simpa using e)
theorem nI {es:List EN} {id:Int} (h:dF (es.map EN.n) id=false)(z:D):wE (es.map Hd) (.int .i64 id) z z false:=
 .inr ⟨rfl,rfl,fun kv hkv=>by
  obtain⟨e,he,rfl⟩:=List.mem_map.1 hkv;intro h2;simp only [Hd,Value.int.injEq,true_and] at h2;exact rJ h e.n (List.mem_map.2 ⟨e,he,rfl⟩) h2⟩
theorem kU {d:DS} {id:Int} (h:dF d.l id=true):∃e∈d.es,e.n.ID=id∧aF d.l id=e.n:=by
 unfold dF at h;cases hq:gV d.l id with
 | none=>rw [hq] at h;cases h
 | some n=>
  obtain⟨h1,h2⟩:=jT hq;obtain⟨e,he,rfl⟩:=List.mem_map.1 h1;exact⟨e,he,h2,by unfold aF;rw [hq];rfl⟩
theorem uZ {d:DS} {e:EN} (he:e∈d.es):dF d.l e.n.ID=true:=by
 cases h:dF d.l e.n.ID with
 | true=>rfl
 | false=>exact absurd rfl (rJ h e.n (List.mem_map.2 ⟨e,he,rfl⟩))
theorem Rl(m M:Nat)(d:DS)(σ:List (List D))(ho:DO m M d σ)(hl:d.es.length≤100000):Ct prog 56 [.ref m 0] σ (fun r σ'=>r= .int ((d.es.length:Int) - 1)∧σ'=σ):=by
 refine zf (rs:=[.tmp 2]) func56 ntmps56 results56 ?_;simp only [aN];have hq:=ho.hm;refine zr ⟨[],[],[],[],[7,7,1000007]⟩ fun _ _ Z=>?_;simp[hq];apply Z;refine zr ⟨[],[],[],[],[7,7,1000007]⟩ fun _ _ Z=>?_;refine zs 5 fun _ Y=>?_;simp[hq];refine⟨m,2,d.ck,_,⟨_,hq,rfl⟩,?_⟩;simp only [List.length_map];and_intros<;>(try omega);apply Y;simp[hq];and_intros<;>(try omega);apply Z;apply aB;simp [aL]
theorem Ib(m M:Nat)(d:DS)(σ:List (List D))(ho:DO m M d σ)(hl:d.es.length≤100000)(hmo:0≤d.most∧d.most≤100000):Ct prog 82 [.ref m 0] σ (fun r σ'=>r= .int (d.most - ((d.es.length:Int) - 1))∧σ'=σ):=by
 refine zf (rs:=[.tmp 2]) func82 ntmps82 results82 ?_;simp only [aN];have hq:=ho.hm;refine aY fun _ _ Z=>?_;simp[hq];apply Z;refine zd ⟨[],[],[],[],[]⟩ [.op {},.op {},.op {},.op {rO:=true},.op {},.read,.op {},.op {}] fun all hall _ Z=>?_;refine jD 5 fun _ Y=>?_;simp[hq];apply Y;refine dR fun _ Y=>?_;simp[hq];refine zdr (Rl m M d _ ho hl) ?_;apply Y;simp[hq];and_intros<;>(try omega);apply Z;apply aB;simp [aL]
theorem aFn {a0 a1 a2 a3 a4 a5 a6 a7 a8 b:D} :([a0,a1,a2,a3,a4,a5,a6,a7,a8]:List D).set 8 b= [a0,a1,a2,a3,a4,a5,a6,a7,b]:=rfl
theorem Vj(o:Nat)(n:ND)(σ:List (List D))(hq:σ[o]?=some (eG n))(h1:n.kids.length≤1000)(h2:n.classes.length≤1000)(h3:n.attrs.length≤1000)(h4:n.styles.length≤1000):Ct prog 66 [.ref o 0] σ (fun r σ'=>r= .ref (σ.length+1) 0∧σ'=σ++ [[],aMf n]):=by
 refine zf (rs:=[.tmp 2]) func66 ntmps66 results66 ?_;simp only [aN];refine kO o 8 1 (es:=n.kids.map D.int) hq rfl (by decide) fun cap rest hcap hcm hrest hes=>?_;simp only [List.length_map,aFn] at hcap hrest ⊢;rw [eO (f:=D.int) (fun _=>rfl)];refine zr ⟨[],[],[3],[],[]⟩ fun _ _ Z=>?_;simp[aV,aP,aM,aH,hq,aI hq,cR hq,dC hq,cU hq,eB hq,cB,bY,bO,bW,bU,cF,dI,cE];apply Z;refine zr ⟨[],[],[3],[],[]⟩ fun _ _ Z=>?_;simp[aV,aP,aM,aH,hq,aI hq,cR hq,dC hq,cU hq,eB hq,cB,bY,bO,bW,bU,cF,dI,cE];and_intros<;>(try omega);apply Z;refine zk [0,2,3] ?_;refine zd ⟨[],[],[3],[],[]⟩ [.op {},.op {},.op {},.op {rO:=true},.pure,.op {},.op {},.op {},.op {rO:=true},.read,.op {},.op {rO:=true,wO:=true},.op {},.op {rO:=true,wO:=true}] fun all hall _ Z=>?_;refine jD 4 fun _ Y=>?_;simp[aV,aP,aM,aH,hq,aI hq,cR hq,dC hq,cU hq,eB hq,cB,bY,bO,bW,bU,cF,dI,cE];apply Y;refine dR fun _ Y=>?_;simp[aV,aP,aM,aH,hq,aI hq,cR hq,dC hq,cU hq,eB hq,cB,bY,bO,bW,bU,cF,dI,cE];refine To (fun _=>(Ho n.classes _ (by omega))) ?_;apply Y;refine jD 4 fun _ Y=>?_;simp[aV,aP,aM,aH,hq,aI hq,cR hq,dC hq,cU hq,eB hq,cB,bY,bO,bW,bU,cF,dI,cE];apply Y;refine dR fun _ Y=>?_;simp[aV,aP,aM,aH,hq,aI hq,cR hq,dC hq,cU hq,eB hq,cB,bY,bO,bW,bU,cF,dI,cE];refine zdr (Tj σ.length cap n.kids rest _ (by omega) (by simp [cB])) ?_;apply Y;simp[aV,aP,aM,aH,hq,aI hq,cR hq,dC hq,cU hq,eB hq,cB,bY,bO,bW,bU,cF,dI,cE];apply Z;refine zk [0,2,3] ?_;refine zd ⟨[],[],[3],[],[]⟩ [.op {},.op {},.op {},.op {rO:=true},.pure,.op {},.op {},.op {},.op {rO:=true},.pure,.op {},.op {rO:=true,wO:=true},.op {},.op {rO:=true,wO:=true}] fun all hall _ Z=>?_;refine jD 4 fun _ Y=>?_;simp[aV,aP,aM,aH,hq,aI hq,cR hq,dC hq,cU hq,eB hq,cB,bY,bO,bW,bU,cF,dI,cE];apply Y;refine dR fun _ Y=>?_;simp[aV,aP,aM,aH,hq,aI hq,cR hq,dC hq,cU hq,eB hq,cB,bY,bO,bW,bU,cF,dI,cE];refine To (fun _=>(Uv n.attrs _ (by omega))) ?_;apply Y;refine jD 4 fun _ Y=>?_;simp[aV,aP,aM,aH,hq,aI hq,cR hq,dC hq,cU hq,eB hq,cB,bY,bO,bW,bU,cF,dI,cE];apply Y;refine dR fun _ Y=>?_;simp[aV,aP,aM,aH,hq,aI hq,cR hq,dC hq,cU hq,eB hq,cB,bY,bO,bW,bU,cF,dI,cE];refine To (fun _=>(Vk n.styles _ (by omega))) ?_;apply Y;simp[aV,aP,aM,aH,hq,aI hq,cR hq,dC hq,cU hq,eB hq,cB,bY,bO,bW,bU,cF,dI,cE];apply Z;refine zk [2,3] ?_;refine zr ⟨[],[],[3],[],[]⟩ fun _ _ Z=>?_;simp[aV,aP,aM,aH,hq,aI hq,cR hq,dC hq,cU hq,eB hq,cB,bY,bO,bW,bU,cF,dI,cE];apply Z;refine nE o 8 1 σ.length n.kids.length cap (n.kids.map D.int) _ (n.kids.map D.int++rest) (cR hq _ _) rfl (by simp [cB]) (by have:=kH hq;omega) (by decide) (by simp [hrest];omega) (by simp) hes (by rw [eO (f:=D.int) (fun _=>rfl)];exact List.prefix_append _ _) ?_;simp only [aFn,cU hq,bY];apply aB;simp [aL];exact kA hq
theorem NB.en {d:DS} (h:NB d.l) {e:EN} (he:e∈d.es):e.n.kids.length≤1000∧e.n.classes.length≤1000∧e.n.attrs.length≤1000∧e.n.styles.length≤1000:=by
 have hm:e.n∈d.l:=List.mem_map.2 ⟨e,he,rfl⟩;exact⟨h.kids _ hm,h.cls _ hm,h.ats _ hm,h.sts _ hm⟩
theorem aFt(m M:Nat)(d:DS)(e:EN)(σ:List (List D))(ho:DO m M d σ)(hx:NB d.l)(he:e∈d.es):Ct prog 15 [.ref m 0,D.int e.n.ID] σ (fun r σ'=>r= .tup [vE e.n,.bool true]∧∃J,σ'=σ++J):=by
 refine zf (rs:=[.cell 4 41,.tmp 5]) func15 ntmps15 results15 ?_;simp only [aN];have hq:=ho.hm;have hne:=ho.hn e he;obtain⟨b1,b2,b3,b4⟩:=hx.en he;refine aY fun _ _ Z=>?_;simp[hq,hne,aV,aP,aM,aH];apply Z;refine aY fun _ _ Z=>?_;refine zs 6 fun _ Y=>?_;simp[hq,hne,aV,aP,aM,aH];refine⟨m,2,d.ck,_,.ref e.o 0,.inr ⟨⟨⟨_,hq,rfl⟩,iZ _,fH he _⟩,?_⟩⟩;and_intros<;>(try omega);apply Y;simp[hq,hne,aV,aP,aM,aH];apply Z;apply aC;refine zk [4,5,6,7] ?_;refine aY fun _ _ Z=>?_;simp[hq,hne,aV,aP,aM,aH];apply Z;refine zi ?_;refine⟨fun c1=>?_,fun c1=>?_⟩
 ·simp at c1
 try simp at c1
 apply aE;apply aA;refine aY fun _ _ Z=>?_;refine zs 1 fun _ Y=>?_;simp[hq,hne,aV,aP,aM,aH];apply Y;refine aD fun _ Y=>?_;simp[hq,hne,aV,aP,aM,aH];refine cH (Vj e.o e.n _ hne b1 b2 b3 b4) ?_;apply Y;simp[hq,hne,aV,aP,aM,aH];apply Z;apply aB;simp [aL]
theorem aGe(m M:Nat)(d:DS)(id:Int)(σ:List (List D))(ho:DO m M d σ)(hno:dF d.l id=false):Ct prog 15 [.ref m 0,D.int id] σ (fun r σ'=>r= .tup [aK8 Ew,.bool false]∧∃J,σ'=σ++J):=by
 refine zf (rs:=[.cell 4 41,.tmp 5]) func15 ntmps15 results15 ?_;simp only [aN];have hq:=ho.hm;refine aY fun _ _ Z=>?_;simp[hq];apply Z;refine aY fun _ _ Z=>?_;refine zs 6 fun _ Y=>?_;simp[hq];refine⟨m,2,d.ck,_,.v (.pointer none),.inl ⟨⟨⟨_,hq,rfl⟩,iZ _,nI hno _⟩,?_⟩⟩;and_intros<;>(try omega);apply Y;simp[hq];apply Z;apply aC;refine zk [4,5,6,7] ?_;refine aY fun _ _ Z=>?_;simp[hq];apply Z;refine zi ?_;refine⟨fun c1=>?_,fun c1=>?_⟩
 ·try simp at c1
  refine aY fun _ _ Z=>?_;simp[hq];apply Z;apply aB;apply aJ;simp [aL,Ew]
 simp at c1
theorem xB {f:FuncId} {args:List D} {σ:List (List D)} {R:D→Prop} (h:Ct prog f args σ (fun r σ'=>R r∧∃J,σ'=σ++J))(hs:∀r,R r→Sc σ.length r):Ct prog f args σ (fun r σ'=>R r∧σ'=σ):=
 h.trim fun r σ' ⟨hr,J,hs'⟩=>⟨σ,J,hs',rfl,hs r hr,fun n cs h=> .inl h,hr,rfl⟩
theorem yX(m M:Nat)(d:DS)(id:Int)(σ:List (List D))(ho:DO m M d σ)(hx:NB d.l):Ct prog 15 [.ref m 0,D.int id] σ (fun r σ'=>r= .tup [vE (aF d.l id),.bool (dF d.l id)]∧σ'=σ):=by
 cases hl:dF d.l id with
 | true=>
  obtain⟨e,he,rfl,hf⟩:=kU hl;rw [hf];exact xB (aFt m M d e σ ho hx he) fun r hr=>by rw [hr];exact Eo (Wx _ _) (Sc.v _)
 | false =>
  have hz:aF d.l id=Ew:=by
   unfold aF;unfold dF at hl;cases hq:gV d.l id with
   | none=>rfl
   | some n=>rw [hq] at hl;cases hl
  rw [hz];refine(xB ((aGe m M d id σ ho hl).strip (Q':=fun r σ'=>r= .tup [vE Ew,.bool false]∧∃J,σ'=σ++J) fun r σ' ⟨hr,hs⟩=>?_) fun r hr=>by rw [hr];exact Eo (Wx _ _) (Sc.v _));subst hr;exact⟨by simp [D.plain],by simp [D.strip,D.s2,D.s1,Ew],hs⟩
theorem Xa(o q:Nat)(n:ND)(l:List Int)(σ:List (List D))(ho:σ[o]?=some (eG n))(hq:σ[q]?=some [.xs 1 (l.map D.int)])(hne:o≠q)(hl:l.length≤100000):Ct prog 209 [.ref o 0,.ref q 0] σ (fun r σ'=>r= .tup []∧∃J,σ'=σ.set q [.xs 1 ((l++ [n.ID]).map D.int)]++J):=by
 refine zf (rs:=[]) func209 ntmps209 results209 ?_;simp only [aN];refine kO q 0 1 (es:=l.map D.int) hq rfl (by decide) fun cap rest hcap hcm hrest hes=>?_;simp only [List.length_map,List.set_cons_zero] at hcap hrest ⊢;rw [eO (f:=D.int) (fun _=>rfl)];have ho2:∀a J,(σ.set q a++J)[o]?=some (eG n):=fun a J=>by rw [List.getElem?_append_left (by simpa using kH ho),List.getElem?_set_ne hne.symm];exact ho
 refine ze ⟨[],[],[],[9],[]⟩ [.op {rO:=true},.op {},.op {},.op {},.op {rO:=true},.op {},.op {rO:=true,wO:=true},.op {rO:=true,wO:=true}] fun all hall _ Z=>?_;refine jD 7 fun _ Y=>?_;simp[ho2,cB,cR hq,cU hq,bY,List.set_set,aV,aP,aM,aH];refine⟨rfl,_,l.map D.int,⟨rfl,by simp [hrest];omega,by simp,hes,by rw [eO (f:=D.int) (fun _=>rfl)];exact List.prefix_append _ _,by simp;omega,by simp;omega⟩,?_⟩;and_intros<;>(try omega);apply Y;simp[ho2,cB,cR hq,cU hq,bY,List.set_set,aV,aP,aM,aH];apply Z;simp [aL]
theorem Wq {f:FuncId} {args:List D} {σ:List (List D)} {q:Nat} {cs:List D} (h:Ct prog f args σ (fun r σ'=>r= .tup []∧∃J,σ'=σ.set q cs++J))(hc:∀d∈cs,Sc σ.length d):Ct prog f args σ (fun r σ'=>r= .tup []∧σ'=σ.set q cs):=
 h.trim fun r σ' ⟨hr,J,hs'⟩=>⟨σ.set q cs,J,hs',by simp,by rw [hr];exact Sc.tup (by simp),fun n cs' h=>by
  rw [List.getElem?_set] at h;split at h
  ·split at h
   ·simp only [Option.some.injEq] at h;subst h;exact .inr hc
   cases h
  exact .inl h,hr,rfl⟩
theorem Wp(N:Nat)(l:List Int):∀d∈ [D.xs 1 (l.map D.int)],Sc N d:=fun d hd=>by
 simp only [List.mem_singleton] at hd;subst hd;exact aB9 N l
def Wy(f:FuncId)(q:Nat):Prop:=∀(o:Nat) (n:ND) (l:List Int) (τ:List (List D)),τ[o]?=some (eG n)→τ[q]?=some [.xs 1 (l.map D.int)]→o≠q→l.length≤100000→Ct prog f [.ref o 0,.ref q 0] τ (fun r τ'=>r= .tup []∧τ'=τ.set q [.xs 1 ((l++ [n.ID]).map D.int)])
theorem Ty(q:Nat):Wy 209 q:=fun o n l τ h1 h2 h3 h4=>Wq (Xa o q n l τ h1 h2 h3 h4) (Wp _ _)
structure EO(m M q:Nat)(d:DS)(bel:Int→List Int)(id:Int)(l:List Int)(σ:List (List D)):Prop where
 hm:σ[m]?=some (mX M d)
 hcl:∀i∈bel id,∀e∈d.es,e.n.ID=i→σ[e.o]?=some (eG e.n)
 hq:σ[q]?=some [.xs 1 (l.map D.int)]
 hl:l.length+(bel id).length≤100000
structure EF(m q:Nat)(d:DS)(bel:Int→List Int)(rk:Int→Nat):Prop where
 qm:q≠m
 qo:∀e∈d.es,e.o≠q
 nm:∀e∈d.es,e.o≠m
 nd:(d.es.map EN.o).Nodup
 nb:NB d.l
 ids:∀e∈d.es,aF d.l e.n.ID=e.n
 tr:Tr d.l bel rk
 kids:∀e∈d.es,∀k∈e.n.kids,dF d.l k=true
theorem Tr.rk_le {l:List ND} {bel:Int→List Int} {rk:Int→Nat} (h:Tr l bel rk):∀(n:Nat) (id:Int),rk id≤n→∀i∈bel id,rk i≤rk id:=by
 intro n;induction n with
 | zero=>
  intro id hn i hi;rw [h.eq id] at hi;rcases List.mem_cons.1 hi with rfl | hi
  ·exact Nat.le_refl _
  obtain⟨k,hk,_⟩:=List.mem_flatMap.1 hi;have:=h.dec id k hk;omega
 | succ n ih=>
  intro id hn i hi;rw [h.eq id] at hi;rcases List.mem_cons.1 hi with rfl | hi
  ·exact Nat.le_refl _
  obtain⟨k,hk,hik⟩:=List.mem_flatMap.1 hi;have h1:=h.dec id k hk;have:=ih k (by omega) i hik;omega
theorem Tr.self {l:List ND} {bel:Int→List Int} {rk:Int→Nat} (h:Tr l bel rk)(id:Int):id∈bel id:=by rw [h.eq id];exact List.mem_cons_self
theorem Tr.kid {l:List ND} {bel:Int→List Int} {rk:Int→Nat} (h:Tr l bel rk) {id k i:Int} (hk:k∈(aF l id).kids)(hi:i∈bel k):i∈bel id:=by
 rw [h.eq id];exact List.mem_cons_of_mem _ (List.mem_flatMap.2 ⟨k,hk,hi⟩)
theorem Do {d:DS} (h:(d.es.map EN.o).Nodup) {a b:EN} (ha:a∈d.es)(hb:b∈d.es)(e:a.o=b.o):a=b:=by
 obtain⟨i,hi,rfl⟩:=List.getElem_of_mem ha;obtain⟨j,hj,rfl⟩:=List.getElem_of_mem hb;have hp:=List.pairwise_iff_getElem.1 h;rcases Nat.lt_trichotomy i j with h1 | rfl | h1
 ·exact absurd e (by have:=hp i j (by simpa using hi) (by simpa using hj) h1;rwa [List.getElem_map,List.getElem_map] at this)
 ·rfl
 exact absurd e.symm (by have:=hp j i (by simpa using hj) (by simpa using hi) h1;rwa [List.getElem_map,List.getElem_map] at this)
def Hv(σ:List (List D))(q o:Nat)(cs row:List D)(Y:List Int):List (List D):=(σ.set q [.xs 1 (Y.map D.int)]).set o cs++ [row]
theorem aEv {σ:List (List D)} {q o:Nat} {cs row:List D} {Y Z:List Int} (hq:q<σ.length)(hne:o≠q):(Hv σ q o cs row Y).set q [.xs 1 (Z.map D.int)]=Hv σ q o cs row Z:=by
 unfold Hv;rw [List.set_append_left _ _ (by simpa using hq),List.set_comm _ _ hne,List.set_set]
theorem jH {σ:List (List D)} {q o:Nat} {cs row:List D} {Y:List Int} :(Hv σ q o cs row Y)[σ.length]?=some row:=by
 unfold Hv;rw [List.getElem?_append_right (by simp)];simp
theorem aLh {σ:List (List D)} {q o:Nat} {cs row:List D} {Y:List Int} (h:o<σ.length):(Hv σ q o cs row Y)[o]?=some cs:=by
 unfold Hv;rw [List.getElem?_append_left (by simpa using h)];simp [h]
theorem aAb {σ:List (List D)} {q o i:Nat} {cs row:List D} {Y:List Int} {a:List D} (h:σ[i]?=some a)(h1:i≠q)(h2:i≠o):(Hv σ q o cs row Y)[i]?=some a:=by
 have hi:=kH h;unfold Hv;rw [List.getElem?_append_left (by simpa using hi),List.getElem?_set_ne (Ne.symm h2),List.getElem?_set_ne (Ne.symm h1)];exact h
theorem aKx {σ:List (List D)} {q o:Nat} {cs row:List D} {Y:List Int} (hq:q<σ.length)(hne:o≠q):(Hv σ q o cs row Y)[q]?=some [.xs 1 (Y.map D.int)]:=by
 unfold Hv;rw [List.getElem?_append_left (by simpa using hq),List.getElem?_set_ne hne];simp [hq]
theorem Ui {σ:List (List D)} {q o:Nat} {cs c2 row:List D} {Y:List Int} (h:σ[o]?=some c2)(hne:o≠q):((Hv σ q o cs row Y).set o c2).set σ.length []=σ.set q [.xs 1 (Y.map D.int)]++ [[]]:=by
 have ho:=kH h;unfold Hv;rw [List.set_append_left _ _ (by simpa using ho),List.set_set];have e:(σ.set q [D.xs 1 (Y.map D.int)]).set o c2=σ.set q [D.xs 1 (Y.map D.int)]:=kA (by rw [List.getElem?_set_ne (Ne.symm hne)];exact h);rw [e,List.set_append_right _ _ (by simp)];simp
theorem EO.kid {m M q:Nat} {d:DS} {bel:Int→List Int} {rk:Int→Nat} {e:EN} {l:List Int} {σ:List (List D)} (hf:EF m q d bel rk)(ho:EO m M q d bel e.n.ID l σ)(he:e∈d.es) {kid:Int} (hk:kid∈e.n.kids)(Y:List Int)(hY:Y.length+(bel kid).length≤100000)(cs row:List D):EO m M q d bel kid Y (Hv σ q e.o cs row Y):=by
 have hid:=hf.ids e he;have hk':kid∈(aF d.l e.n.ID).kids:=by rw [hid];exact hk
 refine⟨aAb ho.hm (Ne.symm hf.qm) (Ne.symm (hf.nm e he)),fun i hi e' he' hei=>?_,aKx (kH ho.hq) (hf.qo e he),hY⟩;refine aAb (ho.hcl i (hf.tr.kid hk' hi) e' he' hei) (hf.qo e' he') fun hoo=>?_;have hee:=Do hf.nd he' he hoo;subst hee;subst hei;have h1:=hf.tr.dec _ kid hk';have h2:=hf.tr.rk_le (rk kid) kid (Nat.le_refl _) _ hi;omega
@[simp] abbrev qAr91:Cfg:=⟨[],[],[],[22,25],[]⟩
theorem Jq(m M q F:Nat)(d:DS)(bel:Int→List Int)(rk:Int→Nat)(e:EN)(l:List Int)(σ:List (List D))(he:e∈d.es)(hd:Wy F q)(hf:EF m q d bel rk)(ho:EO m M q d bel e.n.ID l σ)(ih:∀k∈e.n.kids,∀l' τ,EO m M q d bel k l' τ→Ct prog 165 [.ref m 0,D.int k,.clo (.func F) [] [.ref q 0]] τ (fun r τ'=>r= .tup []∧τ'=τ.set q [.xs 1 ((l'++bel k).map D.int)])):Ct prog 165 [.ref m 0,D.int e.n.ID,.clo (.func F) [] [.ref q 0]] σ (fun r σ'=>r= .tup []∧∃J,σ'=σ.set q [.xs 1 ((l++bel e.n.ID).map D.int)]++J):=by
 refine zf (rs:=[]) func165 ntmps165 results165 ?_;simp only [aN];have hq:=ho.hm;have hqq:=ho.hq;have hself:=ho.hcl _ (hf.tr.self e.n.ID) e he rfl;obtain⟨b1,_,_,_⟩:=hf.nb.en he;have hel:=ho.hl;have hbl:1≤(bel e.n.ID).length:=by rw [hf.tr.eq];simp
 have hqo:=hf.qo e he;have hno:=hf.nm e he;have hbe:bel e.n.ID=e.n.ID::e.n.kids.flatMap bel:=by rw [hf.tr.eq,hf.ids e he]
 have hcell:∀a,(σ.set q a)[e.o]?=some (eG e.n):=fun a=>by rw [List.getElem?_set_ne (Ne.symm hqo)];exact hself
 have ho9:∀cs row Y,(Hv σ q e.o cs row Y)[e.o]?=some cs:=fun cs row Y=>aLh (kH hself);have hopn:∀X cs J,((σ.set q X).set e.o cs++J)[e.o]?=some cs:=fun X cs J=>cR (hcell X) cs J;refine zr qAr91 fun _ _ Z=>?_;refine zs 6 fun _ Y=>?_;simp(disch:=omega)[hq,hqq,hcell,aS,jH,ho9,hopn];refine⟨m,2,d.ck,_,.ref e.o 0,⟨⟨_,hq,rfl⟩,iZ _,.inr (fH he _)⟩,?_⟩;and_intros<;>(try omega);apply Y;simp(disch:=omega)[hq,hqq,hcell,aS,jH,ho9,hopn];apply Z;refine zr qAr91 fun _ _ Z=>?_;refine zs 2 fun _ Y=>?_;simp(disch:=omega)[hq,hqq,hcell,aS,jH,ho9,hopn];apply Y;refine aD fun _ Y=>?_;simp(disch:=omega)[hq,hqq,hcell,aS,jH,ho9,hopn];refine cH (hd e.o e.n l _ hself hqq hqo (by omega)) ?_;apply Y;simp only [dV];apply Z;refine kO e.o 8 1 (es:=e.n.kids.map D.int) (hcell _) rfl (by decide) fun cap rest hcap hcm hrest hes=>?_;simp only [List.length_map,aFn,List.length_set] at hcap hrest ⊢;rw [eO (f:=D.int) (fun _=>rfl)];refine zr qAr91 fun _ _ Z=>?_;simp(disch:=omega)[hq,hqq,hcell,aS,jH,ho9,hopn];and_intros<;>(try omega);apply Z;apply aG;refine zk [0,2,21,22,23] ?_;refine jR (fun(k:Nat)=> [(23,.d (.v (.int .i64 (k:Int)))),(8,.d (.any))]) (fun(k:Nat)=> []) (fun(k:Nat)=>Hv σ q e.o [D.int e.n.ID,D.int e.n.kind,D.str e.n.tag,D.str e.n.text,.sl false (e.n.classes.map D.str),.sl false (e.n.attrs.map cZ),.sl false (e.n.styles.map cX),D.int e.n.parent,.slo σ.length 0 e.n.kids.length cap] (e.n.kids.map D.int++rest) (l++e.n.ID::(e.n.kids.take k).flatMap bel)) [8,23,24,25,26,27,28,29,30,31] (fun(k:Nat)=>k≤e.n.kids.length) (fun(k:Nat)=>e.n.kids.length - k) (0) (by simp <;> rfl) ?_ (by simp) (by simp [Hv]) ?_ ?_
 ·simp
 ·simp
 rintro k hk;simp only [List.cons_append,List.nil_append];refine zr qAr91 fun _ _ Z=>?_;simp(disch:=omega)[hq,hqq,hcell,aS,jH,ho9,hopn];apply Z;apply aC;refine zi ?_;refine⟨fun c1=>?_,fun c1=>?_⟩
 ·try simp at c1
  have hkk:k<e.n.kids.length:=by omega
  have hfl:=xI bel e.n.kids (k+1);rw [Fi bel _ k hkk] at hfl;have hkl:(l++e.n.ID::(e.n.kids.take k).flatMap bel).length+(bel e.n.kids[k]).length≤100000:=by rw [hbe] at hel;simp only [List.length_append,List.length_cons] at *;omega
  apply aE;apply aA;apply aC;apply aG;refine zr qAr91 fun _ _ Z=>?_;simp(disch:=omega)[hq,hqq,hcell,aS,jH,ho9,hopn];and_intros<;>(try omega);apply Z;refine zt qAr91 fun _ _ Z=>?_;refine zs 3 fun _ Y=>?_;simp(disch:=omega)[hq,hqq,hcell,aS,jH,ho9,hopn];apply Y;refine aD fun _ Y=>?_;simp(disch:=omega)[hq,hqq,hcell,aS,jH,ho9,hopn];refine cH (ih _ (List.getElem_mem hkk) _ _ (EO.kid hf ho he (List.getElem_mem hkk) (l++e.n.ID::(e.n.kids.take k).flatMap bel) hkl _ _)) ?_;rw [aEv (kH hqq) hqo];apply Y;simp only [dV];apply Z;apply aK;apply aA;refine zk [0,2,8,21,22,23] ?_;refine zt qAr91 fun _ _ Z=>?_;simp(disch:=omega)[hq,hqq,hcell,aS,jH,ho9,hopn];and_intros<;>(try omega);apply Z;refine dU (k+1) ?_ ?_ (dD rfl ?_ (by simp) (by rw [Fi bel _ k hkk];simp))
  ·omega
  ·try dsimp only
   omega
  simp(disch:=omega)[hq,hqq,hcell,aS,jH,ho9,hopn]
 try simp at c1
 refine nE e.o 8 1 σ.length e.n.kids.length cap (e.n.kids.map D.int) _ (e.n.kids.map D.int++rest) (ho9 _ _ _) rfl jH (by have:=kH hself;omega) (by decide) (by simp [hrest];omega) (by simp) hes (by rw [eO (f:=D.int) (fun _=>rfl)];exact List.prefix_append _ _) ?_;simp only [aFn];rw [Ui hself hqo];apply bC;apply bB;apply bD;apply aX;simp [aL];rw [hbe,List.take_of_length_le (by omega)];simp
theorem aEm(m M q F:Nat)(d:DS)(bel:Int→List Int)(rk:Int→Nat)(id:Int)(l:List Int)(σ:List (List D))(hd:Wy F q)(hf:EF m q d bel rk)(hi:dF d.l id=true)(ho:EO m M q d bel id l σ):Ct prog 165 [.ref m 0,D.int id,.clo (.func F) [] [.ref q 0]] σ (fun r σ'=>r= .tup []∧σ'=σ.set q [.xs 1 ((l++bel id).map D.int)]):=by
 have key:∀(n:Nat) (id:Int) (l:List Int) (σ:List (List D)),rk id≤n→dF d.l id=true→EO m M q d bel id l σ→Ct prog 165 [.ref m 0,D.int id,.clo (.func F) [] [.ref q 0]] σ (fun r σ'=>r= .tup []∧σ'=σ.set q [.xs 1 ((l++bel id).map D.int)]):=by
  intro n;induction n with
  | zero=>
   intro id l σ hn hi ho;obtain⟨e,he,rfl,hfe⟩:=kU hi;refine Wq (Jq m M q F d bel rk e l σ he hd hf ho fun k hk l' τ h=>?_) (Wp _ _);have:=hf.tr.dec e.n.ID k (by rw [hfe];exact hk);omega
  | succ n ih=>
   intro id l σ hn hi ho;obtain⟨e,he,rfl,hfe⟩:=kU hi;refine Wq (Jq m M q F d bel rk e l σ he hd hf ho fun k hk l' τ h=>?_) (Wp _ _);have:=hf.tr.dec e.n.ID k (by rw [hfe];exact hk);exact ih k l' τ (by omega) (hf.kids e he k hk) h
 exact key (rk id) id l σ (Nat.le_refl _) hi ho
end Go.Proofs.YtbgfljpnhhdkoaaGreat
