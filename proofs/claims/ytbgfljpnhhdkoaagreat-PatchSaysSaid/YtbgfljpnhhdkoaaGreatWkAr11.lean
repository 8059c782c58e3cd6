import Derived.Test.YtbgfljpnhhdkoaaGreatWkAr9
open Go.Proofs.Tryz
set_option linter.all false
namespace Go.Proofs.YtbgfljpnhhdkoaaGreat
open Go Go.Vm
set_option maxRecDepth 20000
set_option maxHeartbeats 8000000
structure WD(d:DS)(bel:Int→List Int)(rk:Int→Nat):Prop where
 nb:NB d.l
 ids:∀e∈d.es,aF d.l e.n.ID=e.n
 tr:Tr d.l bel rk
 kids:∀e∈d.es,∀k∈e.n.kids,cX d.l k=true
theorem DO.lt {m M:Nat} {d:DS} {σ:List (List D)} (h:DO m M d σ) {e:EN} (he:e∈d.es):e.o<σ.length:=iX (h.hn e he)
theorem DO.app {m M:Nat} {d:DS} {σ:List (List D)} (h:DO m M d σ)(J:List (List D)):DO m M d (σ++J):=
 ⟨dC h.hm J,fun e he=>dC (h.hn e he) J,h.nm,h.nd,by rw [List.length_append];have:=h.hM;omega⟩
theorem EF.of {m M q:Nat} {d:DS} {bel:Int→List Int} {rk:Int→Nat} {σ:List (List D)} (h:DO m M d σ)(hw:WD d bel rk)(hq:σ.length≤q):EF m q d bel rk:=
 ⟨by have:=iX h.hm;omega,fun e he=>by have:=h.lt he;omega,h.nm,h.nd,hw.nb,hw.ids,hw.tr,hw.kids⟩
theorem EO.of {m M:Nat} {d:DS} {bel:Int→List Int} {rk:Int→Nat} {σ:List (List D)} (h:DO m M d σ)(hw:WD d bel rk)(id:Int):EO m M σ.length d bel id [] (σ++ [[.xs 1 []]]):=
 ⟨dC h.hm _,fun i _ e he _=>dC (h.hn e he) _,by simp,by have:=hw.tr.len id;simp;omega⟩
theorem Vi(m M:Nat)(d:DS)(bel:Int→List Int)(rk:Int→Nat)(σ:List (List D))(ho:DO m M d σ)(hw:WD d bel rk)(h0:cX d.l 0=true):Ct prog 84 [.ref m 0] σ (fun r σ'=>r= .xs 1 ((bel 0).map D.int)∧∃J,σ'=σ++J):=by
 refine zf (rs:=[.tmp 2]) func84 ntmps84 results84 ?_;simp only [aO];refine zr ⟨[2,7],[],[3],[],[]⟩ fun _ _ Z=>?_;simp[aT,aP,aM,aG];apply Z;refine zr ⟨[2,7],[],[3],[],[]⟩ fun _ _ Z=>?_;simp[aT,aP,aM,aG];and_intros<;>(try omega);apply Z;refine pM σ.length 0 1 (by simp [aM];rfl) rfl ?_;simp only [aG,List.set_cons_zero];refine zr ⟨[2,7],[],[3],[],[]⟩ fun _ _ Z=>?_;refine zs 2 fun _ Y=>?_;simp[aT,aP,aM,aG];and_intros<;>(try omega);apply Y;refine aD fun _ Y=>?_;simp[aT,aP,aM,aG];refine cD (Po m M σ.length 166 d bel rk 0 [] _ (Vf σ.length) (EF.of ho hw (Nat.le_refl _)) h0 (EO.of ho hw 0)) ?_;simp only [aG,List.set_cons_zero,List.nil_append];apply Y;simp only [dR];apply Z;refine zr ⟨[2,7],[],[3],[],[]⟩ fun _ _ Z=>?_;simp[aT,aP,aM,aG];apply Z;apply aB;simp [aJ]
theorem Ve(m M:Nat)(d:DS)(bel:Int→List Int)(rk:Int→Nat)(σ:List (List D))(ho:DO m M d σ)(hw:WD d bel rk)(h0:cX d.l 0=true):Ct prog 84 [.ref m 0] σ (fun r σ'=>r= .xs 1 ((bel 0).map D.int)∧σ'=σ):=
 rR (Vi m M d bel rk σ ho hw h0) fun r hr=>by rw [hr];exact Sj _ _
theorem Xf(m M:Nat)(d:DS)(bel:Int→List Int)(rk:Int→Nat)(σ:List (List D))(ho:DO m M d σ)(hw:WD d bel rk)(h0:cX d.l 0=true):Ct prog 84 [.ref m 0] σ (fun r σ'=>r= .sl false ((bel 0).map D.int)∧σ'=σ):=
 (Ve m M d bel rk σ ho hw h0).freeze fun _ _ h=>h
theorem Qx(m M:Nat)(d:DS)(id:Int)(σ:List (List D))(ho:DO m M d σ)(hno:cX d.l id=false):Ct prog 87 [.ref m 0,D.int id] σ (fun r σ'=>r= .int (-1)∧σ'=σ):=by
 refine zf (rs:=[.tmp 4]) func87 ntmps87 results87 ?_;simp only [aO];have hq:=ho.hm;refine aV fun _ _ Z=>?_;simp[hq];apply Z;refine aV fun _ _ Z=>?_;refine zs 6 fun _ Y=>?_;simp[hq];refine⟨m,2,d.ck,_,.v (.pointer none),⟨⟨_,hq,rfl⟩,iB _,.inl (mB hno _)⟩,?_⟩;and_intros<;>(try omega);apply Y;simp[hq];apply Z;apply aC;refine kF ⟨[],[],[],[],[]⟩ fun all hall _ Z=>?_;have ga2:aN all 2=some 14:=hall 2;refine zs 3 fun _ Y=>?_;simp[hq,ga2];apply Y;refine aR 14 (by simp <;> rfl) ?_;refine⟨fun g1=>?_,fun g1=>?_⟩
 ·try simp at g1
  simp[hq,ga2];apply Z;refine bD (t:=true) (by simp) (fun _=>?_) (fun h=>by cases h);refine zk [0,1,4,5] ?_;refine aV fun _ _ Z=>?_;simp[hq];apply Z;apply aB;apply aI;simp [aJ]
 simp at g1
theorem Qp(m M:Nat)(d:DS)(e:EN)(σ:List (List D))(ho:DO m M d σ)(he:e∈d.es)(hp:e.n.parent= -1):Ct prog 87 [.ref m 0,D.int e.n.ID] σ (fun r σ'=>r= .int (-1)∧σ'=σ):=by
 refine zf (rs:=[.tmp 4]) func87 ntmps87 results87 ?_;simp only [aO];have hq:=ho.hm;have hne:=ho.hn e he;refine aV fun _ _ Z=>?_;simp[hq,hne,hp];apply Z;refine aV fun _ _ Z=>?_;refine zs 6 fun _ Y=>?_;simp[hq,hne,hp];refine⟨m,2,d.ck,_,.ref e.o 0,⟨⟨_,hq,rfl⟩,iB _,.inr (eM he _)⟩,?_⟩;and_intros<;>(try omega);apply Y;simp[hq,hne,hp];apply Z;apply aC;refine kF ⟨[],[],[],[],[]⟩ fun all hall _ Z=>?_;have ga2:aN all 2=some 14:=hall 2;refine zs 3 fun _ Y=>?_;simp[hq,hne,hp,ga2];apply Y;refine aR 14 (by simp <;> rfl) ?_;refine⟨fun g1=>?_,fun g1=>?_⟩
 ·simp at g1
 try simp at g1
 simp[hq,hne,hp,ga2];apply Z;refine zi ?_;refine⟨fun c2=>?_,fun c2=>?_⟩
 ·try simp at c2
  refine zk [0,1,4,5] ?_;refine aV fun _ _ Z=>?_;simp[hq,hne,hp];apply Z;apply aB;apply aI;simp [aJ]
 simp at c2
theorem Qq(m M:Nat)(d:DS)(e p:EN)(σ:List (List D))(ho:DO m M d σ)(he:e∈d.es)(hp:p∈d.es)(hpp:p.n.ID=e.n.parent)(hnn:¬e.n.parent= -1)(hoo:e.o≠p.o)(hk:p.n.kids.length≤1000):Ct prog 87 [.ref m 0,D.int e.n.ID] σ (fun r σ'=>r= .int (yH e.n.ID p.n.kids)∧∃J,σ'=σ++J):=by
 refine zf (rs:=[.tmp 4]) func87 ntmps87 results87 ?_;simp only [aO];have hq2:∀cs J,(σ.set p.o cs++J)[m]?=some (mL M d):=fun cs J=>by rw [List.getElem?_append_left (by simpa using iX ho.hm),List.getElem?_set_ne (ho.nm p hp)];exact ho.hm
 have he2:∀cs J,(σ.set p.o cs++J)[e.o]?=some (dX e.n):=fun cs J=>by rw [List.getElem?_append_left (by simpa using iX (ho.hn e he)),List.getElem?_set_ne (Ne.symm hoo)];exact ho.hn e he
 have hpc:=ho.hn p hp;refine iH p.o 8 1 (es:=p.n.kids.map D.int) hpc rfl (by decide) fun cap rest hcap hcm hrest hes=>?_;simp only [List.length_map,Uk] at hcap hrest ⊢;rw [dT (f:=D.int) (fun _=>rfl)];refine aV fun _ _ Z=>?_;simp[hq2,he2,bY hpc,hnn,aT,aP,aM,aG];apply Z;refine aV fun _ _ Z=>?_;refine zs 6 fun _ Y=>?_;simp[hq2,he2,bY hpc,hnn,aT,aP,aM,aG];refine⟨m,2,d.ck,_,.ref e.o 0,⟨⟨_,hq2 _ _,rfl⟩,iB _,.inr (eM he _)⟩,?_⟩;and_intros<;>(try omega);apply Y;simp[hq2,he2,bY hpc,hnn,aT,aP,aM,aG];apply Z;apply aC;refine kF ⟨[],[],[],[],[]⟩ fun all hall _ Z=>?_;have ga2:aN all 2=some 14:=hall 2;refine zs 3 fun _ Y=>?_;simp[hq2,he2,bY hpc,hnn,aT,aP,aM,aG,ga2];apply Y;refine aR 14 (by simp <;> rfl) ?_;refine⟨fun g1=>?_,fun g1=>?_⟩
 ·simp at g1
 try simp at g1
 simp[hq2,he2,bY hpc,hnn,aT,aP,aM,aG,ga2];apply Z;refine zi ?_;refine⟨fun c2=>?_,fun c2=>?_⟩
 ·simp at c2
 try simp at c2
 apply aE;apply aA;refine zk [0,1,4,5] ?_;refine zd ⟨[],[],[],[],[]⟩ [.op {},.op {},.op {},.op {rO:=true},.op {},.op {},.op {},.op {rO:=true},.op {rO:=true},.op {},.op {},.op {rO:=true},.op {},.read,.op {}] fun all hall _ Z=>?_;refine dJ 8 fun _ Y=>?_;simp[hq2,he2,bY hpc,hnn,aT,aP,aM,aG];apply Y;refine dJ 1 fun _ Y=>?_;simp[hq2,he2,bY hpc,hnn,aT,aP,aM,aG];rw [← hpp];refine⟨m,2,d.ck,_,.ref p.o 0,⟨⟨_,hq2 _ _,rfl⟩,iB _,.inr (eM hp _)⟩,?_⟩;and_intros<;>(try omega);apply Y;refine dJ 4 fun _ Y=>?_;simp[hq2,he2,bY hpc,hnn,aT,aP,aM,aG];apply Y;refine cG fun _ Y=>?_;simp[hq2,he2,bY hpc,hnn,aT,aP,aM,aG];refine sR (uZ σ.length cap p.n.kids rest e.n.ID _ (by omega) (by simp [bT])) ?_;apply Y;simp[hq2,he2,bY hpc,hnn,aT,aP,aM,aG];apply Z;refine kX p.o 8 1 σ.length p.n.kids.length cap (p.n.kids.map D.int) _ (p.n.kids.map D.int++rest) (bY hpc _ _) rfl (by simp [bT]) (by have:=iX hpc;omega) (by decide) (by simp [hrest];omega) (by simp) hes (by rw [dT (f:=D.int) (fun _=>rfl)];exact List.prefix_append _ _) ?_;simp only [Uk,cR hpc,bO];rw [iV hpc];apply aB;simp [aJ]
structure WP(d:DS):Prop where
 par:∀e∈d.es,e.n.parent= -1∨∃p∈d.es,p.n.ID=e.n.parent∧p.o≠e.o
 nn:∀e∈d.es,0≤e.n.ID
theorem Bz(m M:Nat)(d:DS)(id:Int)(σ:List (List D))(ho:DO m M d σ)(hx:NB d.l)(hp:WP d)(hids:∀e∈d.es,aF d.l e.n.ID=e.n):Ct prog 87 [.ref m 0,D.int id] σ (fun r σ'=>r= .int (sB d.l id)∧σ'=σ):=by
 cases hl:cX d.l id with
 | false=>
  have e:sB d.l id= -1:=by unfold sB;rw [if_neg (by rw [hl];simp)]
  rw [e];exact Qx m M d id σ ho hl
 | true =>
  obtain⟨e,he,rfl,hf⟩:=jW hl;rcases hp.par e he with h1 | ⟨p,hp1,hp2,hp3⟩
  ·have e1:sB d.l e.n.ID= -1:=by unfold sB;rw [hf,if_neg (by rintro⟨_,h⟩;omega)]
   rw [e1];exact Qp m M d e σ ho he h1
  have hnn:=hp.nn p hp1;have e1:sB d.l e.n.ID=yH e.n.ID p.n.kids:=by
   unfold sB;rw [hf,if_pos ⟨hl,by omega⟩,← hp2,hids p hp1]
  rw [e1];exact rR (Qq m M d e p σ ho he hp1 hp2 (by omega) (Ne.symm hp3) (hx.en hp1).1) fun r hr=>by rw [hr];exact Sc.v _
structure WT(l:List ND)(rk:Int→Nat):Prop where
 nd:(l.map ND.ID).Nodup
 kids:∀n∈l,∀k∈n.kids,∃c∈l,c.ID=k∧c.parent=n.ID
 par:∀n∈l,n.parent= -1∨∃p∈l,p.ID=n.parent∧n.ID∈p.kids
 nn:∀n∈l,0≤n.ID
 kn:∀n∈l,n.kids.Nodup
 dec:∀n∈l,∀k∈n.kids,rk k<rk n.ID
def yP:Nat→List ND→Int→List Int
 | 0,_,id=> [id]
 | f+1,l,id=>id::(aF l id).kids.flatMap (yP f l)
def bL(l:List ND)(rk:Int→Nat)(id:Int):List Int:=yP (rk id) l id
theorem gB {l:List ND} (h:(l.map ND.ID).Nodup) {a b:ND} (ha:a∈l)(hb:b∈l)(e:a.ID=b.ID):a=b:=by
 obtain⟨i,hi,rfl⟩:=List.getElem_of_mem ha;obtain⟨j,hj,rfl⟩:=List.getElem_of_mem hb;have hp:=List.pairwise_iff_getElem.1 h;rcases Nat.lt_trichotomy i j with h1 | rfl | h1
 ·exact absurd e (by have:=hp i j (by simpa using hi) (by simpa using hj) h1;rwa [List.getElem_map,List.getElem_map] at this)
 ·rfl
 exact absurd e.symm (by have:=hp j i (by simpa using hj) (by simpa using hi) h1;rwa [List.getElem_map,List.getElem_map] at this)
theorem Ag {l:List ND} (h:(l.map ND.ID).Nodup) {n:ND} (hn:n∈l):gS l n.ID=some n:=by
 cases e:gS l n.ID with
 | none=>
  unfold gS at e;rw [List.find?_eq_none] at e;exact absurd (by simp:decide (n.ID=n.ID)=true) (e n hn)
 | some m=>
  obtain⟨h1,h2⟩:=jQ e;rw [gB h h1 hn h2]
theorem gW {l:List ND} (h:(l.map ND.ID).Nodup) {n:ND} (hn:n∈l):aF l n.ID=n:=by unfold aF;rw [Ag h hn];rfl
theorem aD6 {l:List ND} (h:(l.map ND.ID).Nodup) {n:ND} (hn:n∈l):cX l n.ID=true:=by unfold cX;rw [Ag h hn];rfl
theorem cY {l:List ND} {id:Int} (h:cX l id=true):∃n∈l,n.ID=id∧aF l id=n:=by
 unfold cX at h;cases hq:gS l id with
 | none=>rw [hq] at h;cases h
 | some n=>obtain⟨h1,h2⟩:=jQ hq;exact⟨n,h1,h2,by unfold aF;rw [hq];rfl⟩
theorem fC {l:List ND} {id:Int} (h:cX l id=false):aF l id=Ej:=by
 unfold aF;unfold cX at h;cases hq:gS l id with
 | none=>rfl
 | some n=>rw [hq] at h;cases h
theorem iG {l:List ND} {id:Int} :cX l id=true↔∃n∈l,n.ID=id:=by
 constructor
 ·intro h;obtain⟨n,h1,h2,_⟩:=cY h;exact⟨n,h1,h2⟩
 rintro⟨n,h1,rfl⟩;cases h:cX l n.ID with
 | true=>rfl
 | false=>exact absurd rfl (qO h n h1)
def Dec(l:List ND)(rk:Int→Nat):Prop:=∀id,∀k∈(aF l id).kids,rk k<rk id
theorem WT.Dec {l:List ND} {rk:Int→Nat} (h:WT l rk):Dec l rk:=fun id k hk=>by
 cases hl:cX l id with
 | false=>rw [fC hl] at hk;cases hk
 | true=>
  obtain⟨n,h1,h2,h3⟩:=cY hl;rw [h3] at hk;rw [← h2];exact h.dec n h1 k hk
theorem iM {α β:Type} {l:List α} {f g:α→List β} (h:∀a∈l,f a=g a):l.flatMap f=l.flatMap g:=by
 induction l with
 | nil=>rfl
 | cons a l ih=>rw [List.flatMap_cons,List.flatMap_cons,h a (by simp),ih fun b hb=>h b (by simp [hb])]
theorem Dec.nil {l:List ND} {rk:Int→Nat} (hd:Dec l rk) {id:Int} (h:rk id=0):(aF l id).kids= []:=
 List.eq_nil_iff_forall_not_mem.2 fun k hk=>by have:=hd id k hk;omega
theorem Fx {l:List ND} {rk:Int→Nat} (hd:Dec l rk):∀(f g:Nat) (id:Int),rk id≤f→rk id≤g→yP f l id=yP g l id
 | 0,0,id,_,_=>rfl
 | 0,g+1,id,h,_=>by simp [yP,hd.nil (show rk id=0 by omega)]
 | f+1,0,id,_,h=>by simp [yP,hd.nil (show rk id=0 by omega)]
 | f+1,g+1,id,h1,h2=>by
  simp only [yP];congr 1;exact iM fun k hk=>Fx hd f g k (by have:=hd id k hk;omega) (by have:=hd id k hk;omega)
theorem fS {l:List ND} {rk:Int→Nat} (hd:Dec l rk)(id:Int):bL l rk id=id::(aF l id).kids.flatMap (bL l rk):=by
 unfold bL;rw [Fx hd (rk id) (rk id+1) id (Nat.le_refl _) (by omega)];simp only [yP];congr 1;exact iM fun k hk=>Fx hd (rk id) (rk k) k (by have:=hd id k hk;omega) (Nat.le_refl _)
theorem iI {l:List ND} {rk:Int→Nat} (hd:Dec l rk)(id:Int):id∈bL l rk id:=by rw [fS hd];exact List.mem_cons_self
theorem Fs {l:List ND} {rk:Int→Nat} (hd:Dec l rk) {id k i:Int} (hk:k∈(aF l id).kids)(hi:i∈bL l rk k):i∈bL l rk id:=by
 rw [fS hd];exact List.mem_cons_of_mem _ (List.mem_flatMap.2 ⟨k,hk,hi⟩)
theorem nS {l:List ND} {rk:Int→Nat} (hd:Dec l rk) {id i:Int} (h:i∈bL l rk id):i=id∨∃k∈(aF l id).kids,i∈bL l rk k:=by
 rw [fS hd] at h;rcases List.mem_cons.1 h with h | h
 ·exact .inl h
 obtain⟨k,h1,h2⟩:=List.mem_flatMap.1 h;exact .inr ⟨k,h1,h2⟩
theorem aIt {l:List ND} {rk:Int→Nat} (hd:Dec l rk):∀(n:Nat) (id:Int),rk id≤n→∀i∈bL l rk id,rk i≤rk id:=by
 intro n;induction n with
 | zero=>
  intro id hn i hi;rcases nS hd hi with rfl | ⟨k,hk,_⟩
  ·exact Nat.le_refl _
  have:=hd id k hk;omega
 | succ n ih=>
  intro id hn i hi;rcases nS hd hi with rfl | ⟨k,hk,hik⟩
  ·exact Nat.le_refl _
  have h1:=hd id k hk;have:=ih k (by omega) i hik;omega
theorem Gd {l:List ND} {rk:Int→Nat} (hd:Dec l rk) {id i:Int} (h:i∈bL l rk id):rk i≤rk id:=aIt hd (rk id) id (Nat.le_refl _) i h
theorem Qs {l:List ND} {rk:Int→Nat} (hd:Dec l rk) {a b:Int} (hab:a∈bL l rk b):∀ {c:Int},b∈bL l rk c→a∈bL l rk c:=by
 intro c;generalize hn:rk c=n;induction n using Nat.strongRecOn generalizing c with
 | _ n ih=>
  intro hbc;rcases nS hd hbc with rfl | ⟨k,hk,hik⟩
  ·exact hab
  have h1:=hd c k hk;exact Fs hd hk (ih (rk k) (by omega) rfl hik)
variable {l:List ND} {rk:Int→Nat}
theorem pU(h:WT l rk) {n:ND} (hn:n∈l) {b:Int} (hb:n.ID∈bL l rk b):n.ID=b∨∃p∈l,p.ID=n.parent∧n.ID∈p.kids∧p.ID∈bL l rk b:=by
 have hd:=h.Dec;generalize hm:rk b=m;induction m using Nat.strongRecOn generalizing b with
 | _ m ih =>
  rcases nS hd hb with e | ⟨k,hk,hik⟩
  ·exact .inl e
  have h1:=hd b k hk;have hlb:cX l b=true:=by
   cases hl:cX l b with
   | true=>rfl
   | false=>rw [fC hl] at hk;cases hk
  obtain⟨q,q1,q2,q3⟩:=cY hlb;rw [q3] at hk;rcases ih (rk k) (by omega) hik rfl with e | ⟨p,p1,p2,p3,p4⟩
  ·obtain⟨c,c1,c2,c3⟩:=h.kids q q1 k hk;have:c=n:=gB h.nd c1 hn (by rw [c2,e]);subst this;refine .inr ⟨q,q1,c3.symm,by rw [e];exact hk,by rw [q2];exact iI hd b⟩
  exact .inr ⟨p,p1,p2,p3,Fs hd (by rw [q3];exact hk) p4⟩
theorem Ap(h:WT l rk) {p:ND} (hp:p∈l) {k b:Int} (hk:k∈p.kids)(hb:p.ID∈bL l rk b):k∈bL l rk b:=
 Qs h.Dec (Fs h.Dec (by rw [gW h.nd hp];exact hk) (iI h.Dec k)) hb
theorem Pj(h:WT l rk) {b i:Int} (hb:cX l b=true)(hi:i∈bL l rk b):cX l i=true:=by
 have hd:=h.Dec;generalize hm:rk b=m;induction m using Nat.strongRecOn generalizing b with
 | _ m ih=>
  rcases nS hd hi with rfl | ⟨k,hk,hik⟩
  ·exact hb
  have h1:=hd b k hk;obtain⟨q,q1,q2,q3⟩:=cY hb;rw [q3] at hk;obtain⟨c,c1,c2,_⟩:=h.kids q q1 k hk;exact ih (rk k) (by omega) (iG.2 ⟨c,c1,c2⟩) hik rfl
theorem Sx(h:WT l rk) {a b:Int} :∀ {n:ND},n∈l→n.ID∈bL l rk a→n.ID∈bL l rk b→a∈bL l rk b∨b∈bL l rk a:=by
 intro n;have hd:=h.Dec;generalize hm:rk a - rk n.ID=m;induction m using Nat.strongRecOn generalizing n with
 | _ m ih=>
  intro hn ha hb;rcases pU h hn ha with e | ⟨p,p1,p2,p3,p4⟩
  ·left;rw [← e];exact hb
  rcases pU h hn hb with e | ⟨q,q1,q2,q3,q4⟩
  ·right;rw [← e];exact ha
  have:p=q:=gB h.nd p1 q1 (by rw [p2,q2]);subst this;have h1:=h.dec p p1 _ p3;have h2:=Gd hd p4;exact ih (rk a - rk p.ID) (by omega) rfl p1 p4 q4
theorem Sb(h:WT l rk):∀ {b:Int},(bL l rk b).Nodup:=by
 intro b;have hd:=h.Dec;generalize hm:rk b=m;induction m using Nat.strongRecOn generalizing b with
 | _ m ih =>
  rw [fS hd];refine List.nodup_cons.2 ⟨fun hi=>?_,?_⟩
  ·obtain⟨k,hk,hik⟩:=List.mem_flatMap.1 hi;have h1:=hd b k hk;have h2:=Gd hd hik;omega
  cases hl:cX l b with
  | false=>rw [fC hl];simp [Ej]
  | true =>
   obtain⟨q,q1,q2,q3⟩:=cY hl;rw [q3];have key:∀K:List Int,K.Nodup→(∀k∈K,k∈q.kids)→(K.flatMap (bL l rk)).Nodup:=by
    intro K;induction K with
    | nil=>intro _ _;simp
    | cons k K ihK =>
     intro hK hsub;have hK':=List.nodup_cons.1 hK;rw [List.flatMap_cons,List.nodup_append];have hk1:=h.dec q q1 k (hsub k (by simp));refine⟨ih (rk k) (by rw [q2] at hk1;omega) rfl,ihK hK'.2 fun j hj=>hsub j (by simp [hj]),fun i hi j hj hij=>?_⟩;subst hij;obtain⟨k2,hk2,hik2⟩:=List.mem_flatMap.1 hj;have hne:k≠k2:=fun e=>hK'.1 (e ▸ hk2);have hk2q:=hsub k2 (by simp [hk2]);obtain⟨c,c1,c2,c3⟩:=h.kids q q1 k (hsub k (by simp));obtain⟨c',d1,d2,d3⟩:=h.kids q q1 k2 hk2q;have hisL:cX l i=true:=Pj h (iG.2 ⟨c,c1,c2⟩) hi;obtain⟨n,n1,n2,_⟩:=cY hisL;have hk2':=h.dec q q1 k2 hk2q;rcases Sx h n1 (by rw [n2];exact hi) (by rw [n2];exact hik2)with hc | hc
     ·rcases pU h c1 (by rw [c2];exact hc)with e | ⟨p,p1,p2,p3,p4⟩
      ·exact hne (by rw [← c2,e])
      have:p=q:=gB h.nd p1 q1 (by rw [p2,c3]);subst this;have:=Gd hd p4;omega
     rcases pU h d1 (by rw [d2];exact hc)with e | ⟨p,p1,p2,p3,p4⟩
     ·exact hne (by rw [← d2,e])
     have:p=q:=gB h.nd p1 q1 (by rw [p2,d3]);subst this;have:=Gd hd p4;omega
   exact key q.kids (h.kn q q1) fun k hk=>hk
theorem Ea {α:Type} [DecidableEq α]:∀ {a b:List α},a.Nodup→(∀x∈a,x∈b)→a.length≤b.length
 | [],b,_,_=>Nat.zero_le _
 | x::a,b,hn,hs=>by
  have hn':=List.nodup_cons.1 hn;have hx:=hs x (by simp);have:=Ea (a:=a) (b:=b.erase x) hn'.2 fun y hy=>(List.mem_erase_of_ne (by rintro rfl;exact hn'.1 hy)).2 (hs y (by simp [hy]));rw [List.length_erase_of_mem hx] at this;have:=List.length_pos_of_mem hx;simp only [List.length_cons];omega
theorem Pw(h:WT l rk)(b:Int):(bL l rk b).length≤l.length+1:=by
 cases hl:cX l b with
 | false=>rw [fS h.Dec,fC hl];simp [Ej]
 | true =>
  have:(bL l rk b).length≤(l.map ND.ID).length:=Ea (Sb h) fun i hi=>by
   obtain⟨n,n1,n2,_⟩:=cY (Pj h hl hi);rw [← n2];exact List.mem_map.2 ⟨n,n1,rfl⟩
  simpa using Nat.le_succ_of_le this
theorem WT.Tr(h:WT l rk)(hl:l.length≤1000):Tr l (bL l rk) rk:=
 ⟨fS h.Dec,h.Dec,fun id=>by have:=Pw h id;omega⟩
end Go.Proofs.YtbgfljpnhhdkoaaGreat
namespace Go.Proofs.YtbgfljpnhhdkoaaGreat
open Go Go.Vm
set_option maxRecDepth 20000
set_option maxHeartbeats 8000000
def pD:Option EN→D
 | some e=> .ref e.o 0
 | none=> .v (.pointer none)
theorem gR(e:EN):pD (some e)= .ref e.o 0:=rfl
theorem iE:pD none= .v (.pointer none):=rfl
@[simp] theorem fU(s:Option EN):(pD s).plain=true:=by cases s <;> rfl
@[simp] theorem fV(s:Option EN):(pD s).strip=pD s:=by cases s <;> rfl
@[simp] theorem aN2(s:Option EN):(pD s).s2=pD s:=by cases s <;> rfl
@[simp] theorem aNo(s:Option EN):(pD s).s1=pD s:=by cases s <;> rfl
def nx(d:DS)(id:Int):Option EN:=d.es.find? fun e=>decide (e.n.ID=id)
theorem On {d:DS} {id:Int} {p:EN} (h:nx d id=some p):p∈d.es∧p.n.ID=id:=by
 unfold nx at h;exact⟨List.mem_of_find?_eq_some h,by simpa using List.find?_some h⟩
theorem Ox {d:DS} {id:Int} (h:nx d id=none):∀n∈d.l,n.ID≠id:=by
 intro n hn e;obtain⟨x,hx,rfl⟩:=List.mem_map.1 hn;unfold nx at h;rw [List.find?_eq_none] at h;exact h x hx (by simpa using e)
theorem Ze(d:DS)(id:Int):vF (d.es.map Gu) (.int .i64 id) (D.v (.pointer none)) (pD (nx d id)) false∨vF (d.es.map Gu) (.int .i64 id) (D.v (.pointer none)) (pD (nx d id)) true:=by
 cases h:nx d id with
 | none=>
  left;refine mB ?_ _;cases hl:cX (d.es.map EN.n) id with
  | false=>rfl
  | true=>obtain⟨n,h1,h2⟩:=iG.1 hl;exact absurd h2 (Ox h n h1)
 | some p=>
  right;obtain⟨h1,h2⟩:=On h;rw [← h2];exact eM h1 _
theorem eE {d:DS} {e:EN} (he:e∈d.es):e.n∈d.l:=List.mem_map.2 ⟨e,he,rfl⟩
theorem aFn {d:DS} {rk:Int→Nat} (h:WT d.l rk) {e:EN} (he:e∈d.es) {b:Int} (hne:¬e.n.ID=b):(∀p,nx d e.n.parent=some p→p∈d.es∧(e.n.ID∈bL d.l rk b↔p.n.ID∈bL d.l rk b)∧rk e.n.ID<rk p.n.ID)∧(nx d e.n.parent=none→e.n.ID∉bL d.l rk b):=by
 constructor
 ·intro p hp;obtain⟨h1,h2⟩:=On hp;have hpn:=h.nn _ (eE h1);rcases h.par _ (eE he)with h3 | ⟨q,q1,q2,q3⟩
  ·omega
  have hqp:q=p.n:=gB h.nd q1 (eE h1) (by rw [q2,h2]);subst hqp;refine⟨h1,⟨fun hb=>?_,fun hb=>Ap h q1 q3 hb⟩,h.dec _ q1 _ q3⟩;rcases pU h (eE he) hb with e1 | ⟨p',p1,p2,p3,p4⟩
  ·exact absurd e1 hne
  have:=gB h.nd p1 q1 (by rw [p2,q2]);rw [← this];exact p4
 intro hn hb;rcases pU h (eE he) hb with e1 | ⟨p',p1,p2,p3,p4⟩
 ·exact hne e1
 exact Ox hn p' p1 p2
def wiM(R:Nat)(rk:Int→Nat):Option EN→Nat
 | none=>0
 | some e=>R+1 - rk e.n.ID
theorem Pc {d:DS} {rk:Int→Nat} {R:Nat} {id b:Int} (h:WT d.l rk)(hR:∀e∈d.es,rk e.n.ID≤R) {e:EN} (he:e∈d.es)(hne:¬e.n.ID=b)(hi:id∈bL d.l rk b↔e.n.ID∈bL d.l rk b):
  ((∀p,nx d e.n.parent=some p→p∈d.es∧(id∈bL d.l rk b↔p.n.ID∈bL d.l rk b))∧(nx d e.n.parent=none→id∉bL d.l rk b))∧wiM R rk (nx d e.n.parent)<wiM R rk (some e):=by
 obtain⟨h1,h2⟩:=aFn h he hne;refine⟨⟨fun p hp=>?_,fun hn hb=>h2 hn (hi.1 hb)⟩,?_⟩
 ·obtain⟨a,b,c⟩:=h1 p hp;exact⟨a,hi.trans b⟩
 have:=hR e he;cases hp:nx d e.n.parent with
 | none=>simp only [wiM];omega
 | some p=>
  obtain⟨a,b,c⟩:=h1 p hp;have:=hR p a;simp only [wiM];omega
theorem xX(l:List Int)(i:Int):(l.any fun k=>decide (k=i))=decide (i∈l):=by
 rw [Bool.eq_iff_iff,List.any_eq_true,decide_eq_true_eq];exact⟨fun⟨x,h1,h2⟩=>by rw [← of_decide_eq_true h2];exact h1,fun h=>⟨i,h,by simp⟩⟩
theorem aIw(m M R:Nat)(d:DS)(rk:Int→Nat)(e0 f:EN)(σ:List (List D))(ho:DO m M d σ)(hwt:WT d.l rk)(hR:∀e∈d.es,rk e.n.ID≤R)(he0:e0∈d.es)(hf:f∈d.es):Ct prog 150 [.ref m 0,D.int e0.n.ID,D.int f.n.ID] σ (fun r σ'=>r= .bool (decide (e0.n.ID∈bL d.l rk f.n.ID))∧σ'=σ):=by
 refine zf (rs:=[.tmp 6]) func150 ntmps150 results150 ?_;simp only [aO];have hq:=ho.hm;have hnn:=ho.hn;refine aV fun _ _ Z=>?_;simp(disch:=omega)[hq,gR,iE,fU,fV,hnn];and_intros<;>(try omega)
 all_goals first | (generalize nx d e.n.parent=s9;cases s9 <;> rfl) | skip
 apply Z;apply aC;refine aV fun _ _ Z=>?_;refine zs 6 fun _ Y=>?_;simp(disch:=omega)[hq,gR,iE,fU,fV,hnn];refine⟨m,2,d.ck,_,.ref f.o 0,⟨⟨_,hq,rfl⟩,iB _,.inr (eM hf _)⟩,?_⟩;and_intros<;>(try omega)
 all_goals first | (generalize nx d e.n.parent=s9;cases s9 <;> rfl) | skip
 apply Y;simp(disch:=omega)[hq,gR,iE,fU,fV,hnn];and_intros<;>(try omega)
 all_goals first | (generalize nx d e.n.parent=s9;cases s9 <;> rfl) | skip
 apply Z;refine zi ?_;refine⟨fun c1=>?_,fun c1=>?_⟩
 ·simp at c1
 try simp at c1
 apply aE;apply aA;apply aC;refine aV fun _ _ Z=>?_;refine zs 6 fun _ Y=>?_;simp(disch:=omega)[hq,gR,iE,fU,fV,hnn];refine⟨m,2,d.ck,_,.ref e0.o 0,⟨⟨_,hq,rfl⟩,iB _,.inr (eM he0 _)⟩,?_⟩;and_intros<;>(try omega)
 all_goals first | (generalize nx d e.n.parent=s9;cases s9 <;> rfl) | skip
 apply Y;simp(disch:=omega)[hq,gR,iE,fU,fV,hnn];and_intros<;>(try omega)
 all_goals first | (generalize nx d e.n.parent=s9;cases s9 <;> rfl) | skip
 apply Z;apply aH;refine zk [0,2,6,7] ?_;refine bE (fun(s:Option EN)=> [(7,.d (pD s))]) [6,7,21,22,23,24,25,26,27,28,29,30,31,32,33,34,35,36,37] (fun(s:Option EN)=>(∀e,s=some e→e∈d.es∧(e0.n.ID∈bL d.l rk f.n.ID↔e.n.ID∈bL d.l rk f.n.ID))∧(s=none→e0.n.ID∉bL d.l rk f.n.ID)) (fun(s:Option EN)=>wiM R rk s) (some e0) (by simp <;> rfl) ?_ ?_ ?_
 ·simp [gR]
 ·exact⟨fun e h=>by cases h;exact⟨he0,Iff.rfl⟩,fun h=>by cases h⟩
 rintro s ⟨hs1,hs2⟩;simp only [List.cons_append,List.nil_append];obtain⟨e,rfl⟩ | rfl:(∃e,s=some e)∨s=none:=by cases s <;> simp
 ·try simp only []
  obtain⟨he,hi⟩:=hs1 e rfl;apply aC;refine aV fun _ _ Z=>?_;simp(disch:=omega)[hq,gR,iE,fU,fV,hnn];and_intros<;>(try omega)
  all_goals first | (generalize nx d e.n.parent=s9;cases s9 <;> rfl) | skip
  apply Z;refine bD (t:=true) (by simp) (fun _=>?_) (fun h=>by cases h);apply aE;apply aA;apply aC;apply aH;refine aV fun _ _ Z=>?_;simp(disch:=omega)[hq,gR,iE,fU,fV,hnn];and_intros<;>(try omega)
  all_goals first | (generalize nx d e.n.parent=s9;cases s9 <;> rfl) | skip
  apply Z;refine zi ?_;refine⟨fun c2=>?_,fun c2=>?_⟩
  ·try simp at c2
   refine aV fun _ _ Z=>?_;simp(disch:=omega)[hq,gR,iE,fU,fV,hnn];and_intros<;>(try omega)
   all_goals first | (generalize nx d e.n.parent=s9;cases s9 <;> rfl) | skip
   apply Z;apply aB;apply aQ;apply aI;apply eH;apply aQ;apply aI;simp [aJ];rw [hi,c2];exact iI hwt.Dec _
  try simp at c2
  apply aE;apply aL;apply aA;refine ze ⟨[],[],[],[],[]⟩ [.op {},.op {},.op {},.op {rO:=true},.op {},.op {},.op {},.op {rO:=true},.op {rO:=true},.op {}] fun all hall _ Z=>?_;refine dJ 8 fun _ Y=>?_;simp(disch:=omega)[hq,gR,iE,fU,fV,hnn];and_intros<;>(try omega)
  all_goals first | (generalize nx d e.n.parent=s9;cases s9 <;> rfl) | skip
  apply Y;refine dJ 1 fun _ Y=>?_;simp(disch:=omega)[hq,gR,iE,fU,fV,hnn];refine⟨m,2,d.ck,_,pD (nx d e.n.parent),⟨⟨_,hq,rfl⟩,iB _,Ze d _⟩,?_⟩;and_intros<;>(try omega)
  all_goals first | (generalize nx d e.n.parent=s9;cases s9 <;> rfl) | skip
  apply Y;simp(disch:=omega)[hq,gR,iE,fU,fV,hnn];and_intros<;>(try omega)
  all_goals first | (generalize nx d e.n.parent=s9;cases s9 <;> rfl) | skip
  apply Z;refine zq (nx d e.n.parent) ?_ ?_ ?_
  ·exact(Pc hwt hR he c2 hi).1
  ·exact(Pc hwt hR he c2 hi).2
  simp(disch:=omega)[hq,gR,iE,fU,fV,hnn]
 try simp only []
 have hno:=hs2 rfl;apply aC;refine aV fun _ _ Z=>?_;simp(disch:=omega)[hq,gR,iE,fU,fV,hnn];and_intros<;>(try omega)
 all_goals first | (generalize nx d e.n.parent=s9;cases s9 <;> rfl) | skip
 apply Z;refine bD (t:=false) (by simp) (fun h=>by cases h) (fun _=>?_);apply bA;apply aZ;apply bB;apply aW;apply aA;refine aV fun _ _ Z=>?_;simp(disch:=omega)[hq,gR,iE,fU,fV,hnn];and_intros<;>(try omega)
 all_goals first | (generalize nx d e.n.parent=s9;cases s9 <;> rfl) | skip
 apply Z;apply aB;simp [aJ];exact hno
theorem aI1(m M:Nat)(d:DS)(id f:Int)(σ:List (List D))(ho:DO m M d σ)(hno:cX d.l f=false):Ct prog 150 [.ref m 0,D.int id,D.int f] σ (fun r σ'=>r= .bool false∧σ'=σ):=by
 refine zf (rs:=[.tmp 6]) func150 ntmps150 results150 ?_;simp only [aO];have hq:=ho.hm;refine aV fun _ _ Z=>?_;simp[hq];apply Z;apply aC;refine aV fun _ _ Z=>?_;refine zs 6 fun _ Y=>?_;simp[hq];refine⟨m,2,d.ck,_,.v (.pointer none),⟨⟨_,hq,rfl⟩,iB _,.inl (mB hno _)⟩,?_⟩;and_intros<;>(try omega);apply Y;simp[hq];apply Z;refine zi ?_;refine⟨fun c1=>?_,fun c1=>?_⟩
 ·try simp at c1
  refine aV fun _ _ Z=>?_;simp[hq];apply Z;apply aB;apply aI;simp [aJ]
 simp at c1
theorem aI0(m M:Nat)(d:DS)(id:Int)(f:EN)(σ:List (List D))(ho:DO m M d σ)(hf:f∈d.es)(hno:cX d.l id=false):Ct prog 150 [.ref m 0,D.int id,D.int f.n.ID] σ (fun r σ'=>r= .bool false∧σ'=σ):=by
 refine zf (rs:=[.tmp 6]) func150 ntmps150 results150 ?_;simp only [aO];have hq:=ho.hm;refine aV fun _ _ Z=>?_;simp[hq];apply Z;apply aC;refine aV fun _ _ Z=>?_;refine zs 6 fun _ Y=>?_;simp[hq];refine⟨m,2,d.ck,_,.ref f.o 0,⟨⟨_,hq,rfl⟩,iB _,.inr (eM hf _)⟩,?_⟩;and_intros<;>(try omega);apply Y;simp[hq];apply Z;refine zi ?_;refine⟨fun c1=>?_,fun c1=>?_⟩
 ·simp at c1
 try simp at c1
 apply aE;apply aA;apply aC;refine aV fun _ _ Z=>?_;refine zs 6 fun _ Y=>?_;simp[hq];refine⟨m,2,d.ck,_,.v (.pointer none),⟨⟨_,hq,rfl⟩,iB _,.inl (mB hno _)⟩,?_⟩;and_intros<;>(try omega);apply Y;simp[hq];apply Z;apply aH;refine zk [0,2,6,7] ?_;refine bE (fun(s:Unit)=> [(7,.d (.v (.pointer none)))]) [6,7,21,22,23,24,25,26,27,28,29,30,31,32,33,34,35,36,37] (fun(s:Unit)=>True) (fun(s:Unit)=>0) (()) (by simp <;> rfl) ?_ ?_ ?_
 ·simp
 ·trivial
 rintro s _;simp only [List.cons_append,List.nil_append];apply aC;refine aV fun _ _ Z=>?_;simp[hq];apply Z;refine zi ?_;refine⟨fun c2=>?_,fun c2=>?_⟩
 ·simp at c2
 try simp at c2
 apply bA;apply aZ;apply bB;apply aW;apply aA;refine aV fun _ _ Z=>?_;simp[hq];apply Z;apply aB;simp [aJ]
theorem aC0(l:List ND)(rk:Int→Nat):∃R,∀n∈l,rk n.ID≤R:=by
 induction l with
 | nil=>exact⟨0,fun n h=>by cases h⟩
 | cons a l ih=>
  obtain⟨R,hR⟩:=ih;refine⟨max R (rk a.ID),fun n h=>?_⟩;rcases List.mem_cons.1 h with rfl | h
  ·omega
  have:=hR n h;omega
theorem Cd(m M:Nat)(d:DS)(rk:Int→Nat)(id f:Int)(σ:List (List D))(ho:DO m M d σ)(hwt:WT d.l rk):Ct prog 150 [.ref m 0,D.int id,D.int f] σ (fun r σ'=>r= .bool (iW d.l (bL d.l rk) id f)∧σ'=σ):=by
 unfold iW;cases hf:cX d.l f with
 | false=>simp only [Bool.and_false,Bool.false_and];exact aI1 m M d id f σ ho hf
 | true =>
  obtain⟨ef,hef,rfl,_⟩:=jW hf;cases hi:cX d.l id with
  | false=>simp only [Bool.false_and];exact aI0 m M d id ef σ ho hef hi
  | true=>
   obtain⟨ei,hei,rfl,_⟩:=jW hi;obtain⟨R,hR⟩:=aC0 d.l rk;rw [xX];simp only [Bool.true_and];exact aIw m M R d rk ei ef σ ho hwt (fun e he=>hR _ (eE he)) hei hef
end Go.Proofs.YtbgfljpnhhdkoaaGreat
