import Derived.Test.YtbgfljpnhhdkoaaGreatWkAr9
open Go.Proofs.Tryz
set_option linter.all false
namespace Go.Proofs.YtbgfljpnhhdkoaaGreat
open Go Go.Vm
set_option maxRecDepth 20000
set_option maxHeartbeats 8000000
structure WD(d:DS)(bel:Int→List Int)(rk:Int→Nat):Prop where
 nb:NB d.l
 ids:∀e∈d.es,aF d.l e.n.ID=e.n
 tr:Tr d.l bel rk
 kids:∀e∈d.es,∀k∈e.n.kids,dF d.l k=true
theorem DO.lt {m M:Nat} {d:DS} {σ:List (List D)} (h:DO m M d σ) {e:EN} (he:e∈d.es):e.o<σ.length:=kH (h.hn e he)
theorem DO.app {m M:Nat} {d:DS} {σ:List (List D)} (h:DO m M d σ)(J:List (List D)):DO m M d (σ++J):=
 ⟨dC h.hm J,fun e he=>dC (h.hn e he) J,h.nm,h.nd,by rw [List.length_append];have:=h.hM;omega⟩
theorem EF.of {m M q:Nat} {d:DS} {bel:Int→List Int} {rk:Int→Nat} {σ:List (List D)} (h:DO m M d σ)(hw:WD d bel rk)(hq:σ.length≤q):EF m q d bel rk:=
 ⟨by have:=kH h.hm;omega,fun e he=>by have:=h.lt he;omega,h.nm,h.nd,hw.nb,hw.ids,hw.tr,hw.kids⟩
theorem EO.of {m M:Nat} {d:DS} {bel:Int→List Int} {rk:Int→Nat} {σ:List (List D)} (h:DO m M d σ)(hw:WD d bel rk)(id:Int):EO m M σ.length d bel id [] (σ++ [[.xs 1 []]]):=
 ⟨dC h.hm _,fun i _ e he _=>dC (h.hn e he) _,by simp,by have:=hw.tr.len id;simp;omega⟩
structure WP(d:DS):Prop where
 par:∀e∈d.es,e.n.parent= -1∨∃p∈d.es,p.n.ID=e.n.parent∧p.o≠e.o
 nn:∀e∈d.es,0≤e.n.ID
structure WT(l:List ND)(rk:Int→Nat):Prop where
 nd:(l.map ND.ID).Nodup
 kids:∀n∈l,∀k∈n.kids,∃c∈l,c.ID=k∧c.parent=n.ID
 par:∀n∈l,n.parent= -1∨∃p∈l,p.ID=n.parent∧n.ID∈p.kids
 nn:∀n∈l,0≤n.ID
 kn:∀n∈l,n.kids.Nodup
 dec:∀n∈l,∀k∈n.kids,rk k<rk n.ID
def zR:Nat→List ND→Int→List Int
 | 0,_,id=> [id]
 | f+1,l,id=>id::(aF l id).kids.flatMap (zR f l)
def bN(l:List ND)(rk:Int→Nat)(id:Int):List Int:=zR (rk id) l id
theorem gR {l:List ND} (h:(l.map ND.ID).Nodup) {a b:ND} (ha:a∈l)(hb:b∈l)(e:a.ID=b.ID):a=b:=by
 obtain⟨i,hi,rfl⟩:=List.getElem_of_mem ha;obtain⟨j,hj,rfl⟩:=List.getElem_of_mem hb;have hp:=List.pairwise_iff_getElem.1 h;rcases Nat.lt_trichotomy i j with h1 | rfl | h1
 ·exact absurd e (by have:=hp i j (by simpa using hi) (by simpa using hj) h1;rwa [List.getElem_map,List.getElem_map] at this)
 ·rfl
 exact absurd e.symm (by have:=hp j i (by simpa using hj) (by simpa using hi) h1;rwa [List.getElem_map,List.getElem_map] at this)
theorem Ab {l:List ND} (h:(l.map ND.ID).Nodup) {n:ND} (hn:n∈l):gV l n.ID=some n:=by
 cases e:gV l n.ID with
 | none=>
  unfold gV at e;rw [List.find?_eq_none] at e;exact absurd (by simp:decide (n.ID=n.ID)=true) (e n hn)
 | some m=>
  obtain⟨h1,h2⟩:=jT e;rw [gR h h1 hn h2]
theorem iN {l:List ND} (h:(l.map ND.ID).Nodup) {n:ND} (hn:n∈l):aF l n.ID=n:=by unfold aF;rw [Ab h hn];rfl
theorem aF1 {l:List ND} (h:(l.map ND.ID).Nodup) {n:ND} (hn:n∈l):dF l n.ID=true:=by unfold dF;rw [Ab h hn];rfl
theorem dQ {l:List ND} {id:Int} (h:dF l id=true):∃n∈l,n.ID=id∧aF l id=n:=by
 unfold dF at h;cases hq:gV l id with
 | none=>rw [hq] at h;cases h
 | some n=>obtain⟨h1,h2⟩:=jT hq;exact⟨n,h1,h2,by unfold aF;rw [hq];rfl⟩
theorem fK {l:List ND} {id:Int} (h:dF l id=false):aF l id=Ew:=by
 unfold aF;unfold dF at h;cases hq:gV l id with
 | none=>rfl
 | some n=>rw [hq] at h;cases h
theorem iU {l:List ND} {id:Int} :dF l id=true↔∃n∈l,n.ID=id:=by
 constructor
 ·intro h;obtain⟨n,h1,h2,_⟩:=dQ h;exact⟨n,h1,h2⟩
 rintro⟨n,h1,rfl⟩;cases h:dF l n.ID with
 | true=>rfl
 | false=>exact absurd rfl (rJ h n h1)
def Dec(l:List ND)(rk:Int→Nat):Prop:=∀id,∀k∈(aF l id).kids,rk k<rk id
theorem WT.Dec {l:List ND} {rk:Int→Nat} (h:WT l rk):Dec l rk:=fun id k hk=>by
 cases hl:dF l id with
 | false=>rw [fK hl] at hk;cases hk
 | true=>
  obtain⟨n,h1,h2,h3⟩:=dQ hl;rw [h3] at hk;rw [← h2];exact h.dec n h1 k hk
theorem iK {α β:Type} {l:List α} {f g:α→List β} (h:∀a∈l,f a=g a):l.flatMap f=l.flatMap g:=by
 induction l with
 | nil=>rfl
 | cons a l ih=>rw [List.flatMap_cons,List.flatMap_cons,h a (by simp),ih fun b hb=>h b (by simp [hb])]
theorem Dec.nil {l:List ND} {rk:Int→Nat} (hd:Dec l rk) {id:Int} (h:rk id=0):(aF l id).kids= []:=
 List.eq_nil_iff_forall_not_mem.2 fun k hk=>by have:=hd id k hk;omega
theorem Gv {l:List ND} {rk:Int→Nat} (hd:Dec l rk):∀(f g:Nat) (id:Int),rk id≤f→rk id≤g→zR f l id=zR g l id
 | 0,0,id,_,_=>rfl
 | 0,g+1,id,h,_=>by simp [zR,hd.nil (show rk id=0 by omega)]
 | f+1,0,id,_,h=>by simp [zR,hd.nil (show rk id=0 by omega)]
 | f+1,g+1,id,h1,h2=>by
  simp only [zR];congr 1;exact iK fun k hk=>Gv hd f g k (by have:=hd id k hk;omega) (by have:=hd id k hk;omega)
theorem gA {l:List ND} {rk:Int→Nat} (hd:Dec l rk)(id:Int):bN l rk id=id::(aF l id).kids.flatMap (bN l rk):=by
 unfold bN;rw [Gv hd (rk id) (rk id+1) id (Nat.le_refl _) (by omega)];simp only [zR];congr 1;exact iK fun k hk=>Gv hd (rk id) (rk k) k (by have:=hd id k hk;omega) (Nat.le_refl _)
theorem iO {l:List ND} {rk:Int→Nat} (hd:Dec l rk)(id:Int):id∈bN l rk id:=by rw [gA hd];exact List.mem_cons_self
theorem Eu {l:List ND} {rk:Int→Nat} (hd:Dec l rk) {id k i:Int} (hk:k∈(aF l id).kids)(hi:i∈bN l rk k):i∈bN l rk id:=by
 rw [gA hd];exact List.mem_cons_of_mem _ (List.mem_flatMap.2 ⟨k,hk,hi⟩)
theorem nR {l:List ND} {rk:Int→Nat} (hd:Dec l rk) {id i:Int} (h:i∈bN l rk id):i=id∨∃k∈(aF l id).kids,i∈bN l rk k:=by
 rw [gA hd] at h;rcases List.mem_cons.1 h with h | h
 ·exact .inl h
 obtain⟨k,h1,h2⟩:=List.mem_flatMap.1 h;exact .inr ⟨k,h1,h2⟩
theorem aIp {l:List ND} {rk:Int→Nat} (hd:Dec l rk):∀(n:Nat) (id:Int),rk id≤n→∀i∈bN l rk id,rk i≤rk id:=by
 intro n;induction n with
 | zero=>
  intro id hn i hi;rcases nR hd hi with rfl | ⟨k,hk,_⟩
  ·exact Nat.le_refl _
  have:=hd id k hk;omega
 | succ n ih=>
  intro id hn i hi;rcases nR hd hi with rfl | ⟨k,hk,hik⟩
  ·exact Nat.le_refl _
  have h1:=hd id k hk;have:=ih k (by omega) i hik;omega
theorem Es {l:List ND} {rk:Int→Nat} (hd:Dec l rk) {id i:Int} (h:i∈bN l rk id):rk i≤rk id:=aIp hd (rk id) id (Nat.le_refl _) i h
theorem Ue {l:List ND} {rk:Int→Nat} (hd:Dec l rk) {a b:Int} (hab:a∈bN l rk b):∀ {c:Int},b∈bN l rk c→a∈bN l rk c:=by
 intro c;generalize hn:rk c=n;induction n using Nat.strongRecOn generalizing c with
 | _ n ih=>
  intro hbc;rcases nR hd hbc with rfl | ⟨k,hk,hik⟩
  ·exact hab
  have h1:=hd c k hk;exact Eu hd hk (ih (rk k) (by omega) rfl hik)
variable {l:List ND} {rk:Int→Nat}
theorem qK(h:WT l rk) {n:ND} (hn:n∈l) {b:Int} (hb:n.ID∈bN l rk b):n.ID=b∨∃p∈l,p.ID=n.parent∧n.ID∈p.kids∧p.ID∈bN l rk b:=by
 have hd:=h.Dec;generalize hm:rk b=m;induction m using Nat.strongRecOn generalizing b with
 | _ m ih =>
  rcases nR hd hb with e | ⟨k,hk,hik⟩
  ·exact .inl e
  have h1:=hd b k hk;have hlb:dF l b=true:=by
   cases hl:dF l b with
   | true=>rfl
   | false=>rw [fK hl] at hk;cases hk
  obtain⟨q,q1,q2,q3⟩:=dQ hlb;rw [q3] at hk;rcases ih (rk k) (by omega) hik rfl with e | ⟨p,p1,p2,p3,p4⟩
  ·obtain⟨c,c1,c2,c3⟩:=h.kids q q1 k hk;have:c=n:=gR h.nd c1 hn (by rw [c2,e]);subst this;refine .inr ⟨q,q1,c3.symm,by rw [e];exact hk,by rw [q2];exact iO hd b⟩
  exact .inr ⟨p,p1,p2,p3,Eu hd (by rw [q3];exact hk) p4⟩
theorem yP(h:WT l rk) {p:ND} (hp:p∈l) {k b:Int} (hk:k∈p.kids)(hb:p.ID∈bN l rk b):k∈bN l rk b:=
 Ue h.Dec (Eu h.Dec (by rw [iN h.nd hp];exact hk) (iO h.Dec k)) hb
theorem Pf(h:WT l rk) {b i:Int} (hb:dF l b=true)(hi:i∈bN l rk b):dF l i=true:=by
 have hd:=h.Dec;generalize hm:rk b=m;induction m using Nat.strongRecOn generalizing b with
 | _ m ih=>
  rcases nR hd hi with rfl | ⟨k,hk,hik⟩
  ·exact hb
  have h1:=hd b k hk;obtain⟨q,q1,q2,q3⟩:=dQ hb;rw [q3] at hk;obtain⟨c,c1,c2,_⟩:=h.kids q q1 k hk;exact ih (rk k) (by omega) (iU.2 ⟨c,c1,c2⟩) hik rfl
theorem Ve(h:WT l rk) {a b:Int} :∀ {n:ND},n∈l→n.ID∈bN l rk a→n.ID∈bN l rk b→a∈bN l rk b∨b∈bN l rk a:=by
 intro n;have hd:=h.Dec;generalize hm:rk a - rk n.ID=m;induction m using Nat.strongRecOn generalizing n with
 | _ m ih=>
  intro hn ha hb;rcases qK h hn ha with e | ⟨p,p1,p2,p3,p4⟩
  ·left;rw [← e];exact hb
  rcases qK h hn hb with e | ⟨q,q1,q2,q3,q4⟩
  ·right;rw [← e];exact ha
  have:p=q:=gR h.nd p1 q1 (by rw [p2,q2]);subst this;have h1:=h.dec p p1 _ p3;have h2:=Es hd p4;exact ih (rk a - rk p.ID) (by omega) rfl p1 p4 q4
theorem Vf(h:WT l rk):∀ {b:Int},(bN l rk b).Nodup:=by
 intro b;have hd:=h.Dec;generalize hm:rk b=m;induction m using Nat.strongRecOn generalizing b with
 | _ m ih =>
  rw [gA hd];refine List.nodup_cons.2 ⟨fun hi=>?_,?_⟩
  ·obtain⟨k,hk,hik⟩:=List.mem_flatMap.1 hi;have h1:=hd b k hk;have h2:=Es hd hik;omega
  cases hl:dF l b with
  | false=>rw [fK hl];simp [Ew]
  | true =>
   obtain⟨q,q1,q2,q3⟩:=dQ hl;rw [q3];have key:∀K:List Int,K.Nodup→(∀k∈K,k∈q.kids)→(K.flatMap (bN l rk)).Nodup:=by
    intro K;induction K with
    | nil=>intro _ _;simp
    | cons k K ihK =>
     intro hK hsub;have hK':=List.nodup_cons.1 hK;rw [List.flatMap_cons,List.nodup_append];have hk1:=h.dec q q1 k (hsub k (by simp));refine⟨ih (rk k) (by rw [q2] at hk1;omega) rfl,ihK hK'.2 fun j hj=>hsub j (by simp [hj]),fun i hi j hj hij=>?_⟩;subst hij;obtain⟨k2,hk2,hik2⟩:=List.mem_flatMap.1 hj;have hne:k≠k2:=fun e=>hK'.1 (e ▸ hk2);have hk2q:=hsub k2 (by simp [hk2]);obtain⟨c,c1,c2,c3⟩:=h.kids q q1 k (hsub k (by simp));obtain⟨c',d1,d2,d3⟩:=h.kids q q1 k2 hk2q;have hisL:dF l i=true:=Pf h (iU.2 ⟨c,c1,c2⟩) hi;obtain⟨n,n1,n2,_⟩:=dQ hisL;have hk2':=h.dec q q1 k2 hk2q;rcases Ve h n1 (by rw [n2];exact hi) (by rw [n2];exact hik2)with hc | hc
     ·rcases qK h c1 (by rw [c2];exact hc)with e | ⟨p,p1,p2,p3,p4⟩
      ·exact hne (by rw [← c2,e])
      have:p=q:=gR h.nd p1 q1 (by rw [p2,c3]);subst this;have:=Es hd p4;omega
     rcases qK h d1 (by rw [d2];exact hc)with e | ⟨p,p1,p2,p3,p4⟩
     ·exact hne (by rw [← d2,e])
     have:p=q:=gR h.nd p1 q1 (by rw [p2,d3]);subst this;have:=Es hd p4;omega
   exact key q.kids (h.kn q q1) fun k hk=>hk
theorem Cm {α:Type} [DecidableEq α]:∀ {a b:List α},a.Nodup→(∀x∈a,x∈b)→a.length≤b.length
 | [],b,_,_=>Nat.zero_le _
 | x::a,b,hn,hs=>by
  have hn':=List.nodup_cons.1 hn;have hx:=hs x (by simp);have:=Cm (a:=a) (b:=b.erase x) hn'.2 fun y hy=>(List.mem_erase_of_ne (by rintro rfl;exact hn'.1 hy)).2 (hs y (by simp [hy]));rw [List.length_erase_of_mem hx] at this;have:=List.length_pos_of_mem hx;simp only [List.length_cons];omega
theorem Qs(h:WT l rk)(b:Int):(bN l rk b).length≤l.length+1:=by
 cases hl:dF l b with
 | false=>rw [gA h.Dec,fK hl];simp [Ew]
 | true =>
  have:(bN l rk b).length≤(l.map ND.ID).length:=Cm (Vf h) fun i hi=>by
   obtain⟨n,n1,n2,_⟩:=dQ (Pf h hl hi);rw [← n2];exact List.mem_map.2 ⟨n,n1,rfl⟩
  simpa using Nat.le_succ_of_le this
theorem WT.Tr(h:WT l rk)(hl:l.length≤1000):Tr l (bN l rk) rk:=
 ⟨gA h.Dec,h.Dec,fun id=>by have:=Qs h id;omega⟩
end Go.Proofs.YtbgfljpnhhdkoaaGreat
namespace Go.Proofs.YtbgfljpnhhdkoaaGreat
open Go Go.Vm
set_option maxRecDepth 20000
set_option maxHeartbeats 8000000
def pD:Option EN→D
 | some e=> .ref e.o 0
 | none=> .v (.pointer none)
theorem gS(e:EN):pD (some e)= .ref e.o 0:=rfl
theorem iI:pD none= .v (.pointer none):=rfl
@[simp] theorem gC(s:Option EN):(pD s).plain=true:=by cases s <;> rfl
@[simp] theorem gB(s:Option EN):(pD s).strip=pD s:=by cases s <;> rfl
@[simp] theorem aO4(s:Option EN):(pD s).s2=pD s:=by cases s <;> rfl
@[simp] theorem aN7(s:Option EN):(pD s).s1=pD s:=by cases s <;> rfl
def nx(d:DS)(id:Int):Option EN:=d.es.find? fun e=>decide (e.n.ID=id)
theorem Qb {d:DS} {id:Int} {p:EN} (h:nx d id=some p):p∈d.es∧p.n.ID=id:=by
 unfold nx at h;exact⟨List.mem_of_find?_eq_some h,by simpa using List.find?_some h⟩
theorem Qi {d:DS} {id:Int} (h:nx d id=none):∀n∈d.l,n.ID≠id:=by
 intro n hn e;obtain⟨x,hx,rfl⟩:=List.mem_map.1 hn;unfold nx at h;rw [List.find?_eq_none] at h;exact h x hx (by simpa using e)
theorem Yk(d:DS)(id:Int):wE (d.es.map Hd) (.int .i64 id) (D.v (.pointer none)) (pD (nx d id)) false∨wE (d.es.map Hd) (.int .i64 id) (D.v (.pointer none)) (pD (nx d id)) true:=by
 cases h:nx d id with
 | none=>
  left;refine nI ?_ _;cases hl:dF (d.es.map EN.n) id with
  | false=>rfl
  | true=>obtain⟨n,h1,h2⟩:=iU.1 hl;exact absurd h2 (Qi h n h1)
 | some p=>
  right;obtain⟨h1,h2⟩:=Qb h;rw [← h2];exact fH h1 _
theorem eE {d:DS} {e:EN} (he:e∈d.es):e.n∈d.l:=List.mem_map.2 ⟨e,he,rfl⟩
theorem aEg {d:DS} {rk:Int→Nat} (h:WT d.l rk) {e:EN} (he:e∈d.es) {b:Int} (hne:¬e.n.ID=b):(∀p,nx d e.n.parent=some p→p∈d.es∧(e.n.ID∈bN d.l rk b↔p.n.ID∈bN d.l rk b)∧rk e.n.ID<rk p.n.ID)∧(nx d e.n.parent=none→e.n.ID∉bN d.l rk b):=by
 constructor
 ·intro p hp;obtain⟨h1,h2⟩:=Qb hp;have hpn:=h.nn _ (eE h1);rcases h.par _ (eE he)with h3 | ⟨q,q1,q2,q3⟩
  ·omega
  have hqp:q=p.n:=gR h.nd q1 (eE h1) (by rw [q2,h2]);subst hqp;refine⟨h1,⟨fun hb=>?_,fun hb=>yP h q1 q3 hb⟩,h.dec _ q1 _ q3⟩;rcases qK h (eE he) hb with e1 | ⟨p',p1,p2,p3,p4⟩
  ·exact absurd e1 hne
  have:=gR h.nd p1 q1 (by rw [p2,q2]);rw [← this];exact p4
 intro hn hb;rcases qK h (eE he) hb with e1 | ⟨p',p1,p2,p3,p4⟩
 ·exact hne e1
 exact Qi hn p' p1 p2
def wiM(R:Nat)(rk:Int→Nat):Option EN→Nat
 | none=>0
 | some e=>R+1 - rk e.n.ID
theorem Pn {d:DS} {rk:Int→Nat} {R:Nat} {id b:Int} (h:WT d.l rk)(hR:∀e∈d.es,rk e.n.ID≤R) {e:EN} (he:e∈d.es)(hne:¬e.n.ID=b)(hi:id∈bN d.l rk b↔e.n.ID∈bN d.l rk b):
  ((∀p,nx d e.n.parent=some p→p∈d.es∧(id∈bN d.l rk b↔p.n.ID∈bN d.l rk b))∧(nx d e.n.parent=none→id∉bN d.l rk b))∧wiM R rk (nx d e.n.parent)<wiM R rk (some e):=by
 obtain⟨h1,h2⟩:=aEg h he hne;refine⟨⟨fun p hp=>?_,fun hn hb=>h2 hn (hi.1 hb)⟩,?_⟩
 ·obtain⟨a,b,c⟩:=h1 p hp;exact⟨a,hi.trans b⟩
 have:=hR e he;cases hp:nx d e.n.parent with
 | none=>simp only [wiM];omega
 | some p=>
  obtain⟨a,b,c⟩:=h1 p hp;have:=hR p a;simp only [wiM];omega
theorem yF(l:List Int)(i:Int):(l.any fun k=>decide (k=i))=decide (i∈l):=by
 rw [Bool.eq_iff_iff,List.any_eq_true,decide_eq_true_eq];exact⟨fun⟨x,h1,h2⟩=>by rw [← of_decide_eq_true h2];exact h1,fun h=>⟨i,h,by simp⟩⟩
theorem aI3(m M R:Nat)(d:DS)(rk:Int→Nat)(e0 f:EN)(σ:List (List D))(ho:DO m M d σ)(hwt:WT d.l rk)(hR:∀e∈d.es,rk e.n.ID≤R)(he0:e0∈d.es)(hf:f∈d.es):Ct prog 150 [.ref m 0,D.int e0.n.ID,D.int f.n.ID] σ (fun r σ'=>r= .bool (decide (e0.n.ID∈bN d.l rk f.n.ID))∧σ'=σ):=by
 refine zf (rs:=[.tmp 6]) func150 ntmps150 results150 ?_;simp only [aN];have hq:=ho.hm;have hnn:=ho.hn;refine aY fun _ _ Z=>?_;simp(disch:=omega)[hq,gS,iI,gC,gB,hnn];and_intros<;>(try omega)
 all_goals first | (generalize nx d e.n.parent=s9;cases s9 <;> rfl) | skip
 apply Z;apply aC;refine aY fun _ _ Z=>?_;refine zs 6 fun _ Y=>?_;simp(disch:=omega)[hq,gS,iI,gC,gB,hnn];refine⟨m,2,d.ck,_,.ref f.o 0,⟨⟨_,hq,rfl⟩,iZ _,.inr (fH hf _)⟩,?_⟩;and_intros<;>(try omega)
 all_goals first | (generalize nx d e.n.parent=s9;cases s9 <;> rfl) | skip
 apply Y;simp(disch:=omega)[hq,gS,iI,gC,gB,hnn];and_intros<;>(try omega)
 all_goals first | (generalize nx d e.n.parent=s9;cases s9 <;> rfl) | skip
 apply Z;refine zi ?_;refine⟨fun c1=>?_,fun c1=>?_⟩
 ·simp at c1
 try simp at c1
 apply aE;apply aA;apply aC;refine aY fun _ _ Z=>?_;refine zs 6 fun _ Y=>?_;simp(disch:=omega)[hq,gS,iI,gC,gB,hnn];refine⟨m,2,d.ck,_,.ref e0.o 0,⟨⟨_,hq,rfl⟩,iZ _,.inr (fH he0 _)⟩,?_⟩;and_intros<;>(try omega)
 all_goals first | (generalize nx d e.n.parent=s9;cases s9 <;> rfl) | skip
 apply Y;simp(disch:=omega)[hq,gS,iI,gC,gB,hnn];and_intros<;>(try omega)
 all_goals first | (generalize nx d e.n.parent=s9;cases s9 <;> rfl) | skip
 apply Z;apply aG;refine zk [0,2,6,7] ?_;refine bI (fun(s:Option EN)=> [(7,.d (pD s))]) [6,7,21,22,23,24,25,26,27,28,29,30,31,32,33,34,35,36,37] (fun(s:Option EN)=>(∀e,s=some e→e∈d.es∧(e0.n.ID∈bN d.l rk f.n.ID↔e.n.ID∈bN d.l rk f.n.ID))∧(s=none→e0.n.ID∉bN d.l rk f.n.ID)) (fun(s:Option EN)=>wiM R rk s) (some e0) (by simp <;> rfl) ?_ ?_ ?_
 ·simp [gS]
 ·exact⟨fun e h=>by cases h;exact⟨he0,Iff.rfl⟩,fun h=>by cases h⟩
 rintro s ⟨hs1,hs2⟩;simp only [List.cons_append,List.nil_append];obtain⟨e,rfl⟩ | rfl:(∃e,s=some e)∨s=none:=by cases s <;> simp
 ·try simp only []
  obtain⟨he,hi⟩:=hs1 e rfl;apply aC;refine aY fun _ _ Z=>?_;simp(disch:=omega)[hq,gS,iI,gC,gB,hnn];and_intros<;>(try omega)
  all_goals first | (generalize nx d e.n.parent=s9;cases s9 <;> rfl) | skip
  apply Z;refine bM (t:=true) (by simp) (fun _=>?_) (fun h=>by cases h);apply aE;apply aA;apply aC;apply aG;refine aY fun _ _ Z=>?_;simp(disch:=omega)[hq,gS,iI,gC,gB,hnn];and_intros<;>(try omega)
  all_goals first | (generalize nx d e.n.parent=s9;cases s9 <;> rfl) | skip
  apply Z;refine zi ?_;refine⟨fun c2=>?_,fun c2=>?_⟩
  ·try simp at c2
   refine aY fun _ _ Z=>?_;simp(disch:=omega)[hq,gS,iI,gC,gB,hnn];and_intros<;>(try omega)
   all_goals first | (generalize nx d e.n.parent=s9;cases s9 <;> rfl) | skip
   apply Z;apply aB;apply aQ;apply aJ;apply fD;apply aQ;apply aJ;simp [aL];rw [hi,c2];exact iO hwt.Dec _
  try simp at c2
  apply aE;apply aK;apply aA;refine ze ⟨[],[],[],[],[]⟩ [.op {},.op {},.op {},.op {rO:=true},.op {},.op {},.op {},.op {rO:=true},.op {rO:=true},.op {}] fun all hall _ Z=>?_;refine jD 8 fun _ Y=>?_;simp(disch:=omega)[hq,gS,iI,gC,gB,hnn];and_intros<;>(try omega)
  all_goals first | (generalize nx d e.n.parent=s9;cases s9 <;> rfl) | skip
  apply Y;refine jD 1 fun _ Y=>?_;simp(disch:=omega)[hq,gS,iI,gC,gB,hnn];refine⟨m,2,d.ck,_,pD (nx d e.n.parent),⟨⟨_,hq,rfl⟩,iZ _,Yk d _⟩,?_⟩;and_intros<;>(try omega)
  all_goals first | (generalize nx d e.n.parent=s9;cases s9 <;> rfl) | skip
  apply Y;simp(disch:=omega)[hq,gS,iI,gC,gB,hnn];and_intros<;>(try omega)
  all_goals first | (generalize nx d e.n.parent=s9;cases s9 <;> rfl) | skip
  apply Z;refine zq (nx d e.n.parent) ?_ ?_ ?_
  ·exact(Pn hwt hR he c2 hi).1
  ·exact(Pn hwt hR he c2 hi).2
  simp(disch:=omega)[hq,gS,iI,gC,gB,hnn]
 try simp only []
 have hno:=hs2 rfl;apply aC;refine aY fun _ _ Z=>?_;simp(disch:=omega)[hq,gS,iI,gC,gB,hnn];and_intros<;>(try omega)
 all_goals first | (generalize nx d e.n.parent=s9;cases s9 <;> rfl) | skip
 apply Z;refine bM (t:=false) (by simp) (fun h=>by cases h) (fun _=>?_);apply bC;apply bB;apply bD;apply aX;apply aA;refine aY fun _ _ Z=>?_;simp(disch:=omega)[hq,gS,iI,gC,gB,hnn];and_intros<;>(try omega)
 all_goals first | (generalize nx d e.n.parent=s9;cases s9 <;> rfl) | skip
 apply Z;apply aB;simp [aL];exact hno
theorem aHa(m M:Nat)(d:DS)(id f:Int)(σ:List (List D))(ho:DO m M d σ)(hno:dF d.l f=false):Ct prog 150 [.ref m 0,D.int id,D.int f] σ (fun r σ'=>r= .bool false∧σ'=σ):=by
 refine zf (rs:=[.tmp 6]) func150 ntmps150 results150 ?_;simp only [aN];have hq:=ho.hm;refine aY fun _ _ Z=>?_;simp[hq];apply Z;apply aC;refine aY fun _ _ Z=>?_;refine zs 6 fun _ Y=>?_;simp[hq];refine⟨m,2,d.ck,_,.v (.pointer none),⟨⟨_,hq,rfl⟩,iZ _,.inl (nI hno _)⟩,?_⟩;and_intros<;>(try omega);apply Y;simp[hq];apply Z;refine zi ?_;refine⟨fun c1=>?_,fun c1=>?_⟩
 ·try simp at c1
  refine aY fun _ _ Z=>?_;simp[hq];apply Z;apply aB;apply aJ;simp [aL]
 simp at c1
theorem aHe(m M:Nat)(d:DS)(id:Int)(f:EN)(σ:List (List D))(ho:DO m M d σ)(hf:f∈d.es)(hno:dF d.l id=false):Ct prog 150 [.ref m 0,D.int id,D.int f.n.ID] σ (fun r σ'=>r= .bool false∧σ'=σ):=by
 refine zf (rs:=[.tmp 6]) func150 ntmps150 results150 ?_;simp only [aN];have hq:=ho.hm;refine aY fun _ _ Z=>?_;simp[hq];apply Z;apply aC;refine aY fun _ _ Z=>?_;refine zs 6 fun _ Y=>?_;simp[hq];refine⟨m,2,d.ck,_,.ref f.o 0,⟨⟨_,hq,rfl⟩,iZ _,.inr (fH hf _)⟩,?_⟩;and_intros<;>(try omega);apply Y;simp[hq];apply Z;refine zi ?_;refine⟨fun c1=>?_,fun c1=>?_⟩
 ·simp at c1
 try simp at c1
 apply aE;apply aA;apply aC;refine aY fun _ _ Z=>?_;refine zs 6 fun _ Y=>?_;simp[hq];refine⟨m,2,d.ck,_,.v (.pointer none),⟨⟨_,hq,rfl⟩,iZ _,.inl (nI hno _)⟩,?_⟩;and_intros<;>(try omega);apply Y;simp[hq];apply Z;apply aG;refine zk [0,2,6,7] ?_;refine bI (fun(s:Unit)=> [(7,.d (.v (.pointer none)))]) [6,7,21,22,23,24,25,26,27,28,29,30,31,32,33,34,35,36,37] (fun(s:Unit)=>True) (fun(s:Unit)=>0) (()) (by simp <;> rfl) ?_ ?_ ?_
 ·simp
 ·trivial
 rintro s _;simp only [List.cons_append,List.nil_append];apply aC;refine aY fun _ _ Z=>?_;simp[hq];apply Z;refine zi ?_;refine⟨fun c2=>?_,fun c2=>?_⟩
 ·simp at c2
 try simp at c2
 apply bC;apply bB;apply bD;apply aX;apply aA;refine aY fun _ _ Z=>?_;simp[hq];apply Z;apply aB;simp [aL]
theorem aBd(l:List ND)(rk:Int→Nat):∃R,∀n∈l,rk n.ID≤R:=by
 induction l with
 | nil=>exact⟨0,fun n h=>by cases h⟩
 | cons a l ih=>
  obtain⟨R,hR⟩:=ih;refine⟨max R (rk a.ID),fun n h=>?_⟩;rcases List.mem_cons.1 h with rfl | h
  ·omega
  have:=hR n h;omega
theorem Cj(m M:Nat)(d:DS)(rk:Int→Nat)(id f:Int)(σ:List (List D))(ho:DO m M d σ)(hwt:WT d.l rk):Ct prog 150 [.ref m 0,D.int id,D.int f] σ (fun r σ'=>r= .bool (gW d.l (bN d.l rk) id f)∧σ'=σ):=by
 unfold gW;cases hf:dF d.l f with
 | false=>simp only [Bool.and_false,Bool.false_and];exact aHa m M d id f σ ho hf
 | true =>
  obtain⟨ef,hef,rfl,_⟩:=kU hf;cases hi:dF d.l id with
  | false=>simp only [Bool.false_and];exact aHe m M d id ef σ ho hef hi
  | true=>
   obtain⟨ei,hei,rfl,_⟩:=kU hi;obtain⟨R,hR⟩:=aBd d.l rk;rw [yF];simp only [Bool.true_and];exact aI3 m M R d rk ei ef σ ho hwt (fun e he=>hR _ (eE he)) hei hef
end Go.Proofs.YtbgfljpnhhdkoaaGreat
