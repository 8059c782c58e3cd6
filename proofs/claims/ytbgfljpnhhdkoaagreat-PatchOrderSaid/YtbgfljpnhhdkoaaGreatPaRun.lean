import Derived.Test.YtbgfljpnhhdkoaaGreatWkWv0
import Derived.Test.YtbgfljpnhhdkoaaGreatWkWv4
open Go.Proofs.Tryz
set_option maxHeartbeats 1000000
set_option linter.all false
namespace Go.Proofs.YtbgfljpnhhdkoaaGreat
open Go Go.Vm
def jP(l:List ND)(bel:Int→List Int)(p i:Int):Bool:=dF l i && decide (i≠0) && decide ((aF l i).parent<0) && !gW l bel p i
def sG(l:List ND)(bel:Int→List Int)(p:Int)(s:ST):Prop:=s.kind=1∨(s.kind=2∧jP l bel p s.ID=false)
def Gr(p:Int)(s:ST):TOp:=if s.kind=2 then⟨3,p,s.at_,s.ID,⟨#[]⟩,⟨#[]⟩⟩else⟨4,s.ID,s.at_,0,⟨#[]⟩,⟨#[]⟩⟩
theorem Sh {l:List ND} {bel:Int→List Int} {p i:Int} :jP l bel p i=true↔dF l i=true∧¬i=0∧(aF l i).parent<0∧gW l bel p i=false:=by
 unfold jP;simp [and_assoc]
theorem aF4 {l:List ND} {bel:Int→List Int} {p:Int} {s:ST} (h:s.kind=2)(hl:jP l bel p s.ID=false):sG l bel p s:= .inr ⟨h,hl⟩
theorem Av {l:List ND} {bel:Int→List Int} {p:Int} {s:ST} (h:s.kind=2)(hl:jP l bel p s.ID=true):¬sG l bel p s:=by
 rintro(q | ⟨_,q⟩)
 ·omega
 rw [hl] at q;cases q
theorem zH {l:List ND} {bel:Int→List Int} {p:Int} {s:ST} (h1:¬s.kind=1)(h:¬s.kind=2):¬sG l bel p s:=by
 rintro(q | ⟨q,_⟩) <;> omega
theorem Zx {α:Type} {Q:α→Prop} {S:List α} {k:Nat} (hk:k<S.length)(h:∀s∈S.take k,Q s)(hq:Q S[k]):∀s∈S.take (k+1),Q s:=by
 rw [List.take_succ_eq_append_getElem hk];intro s hs;rcases List.mem_append.1 hs with hs | hs
 ·exact h s hs
 simp at hs;subst hs;exact hq
theorem Kw(frm to:List Int):∀s∈eJ frm to,s.kind=1∨s.kind=2∨s.kind=3:=by
 have key:∀(a b os:List Int) k,∀s∈(fU a b os k).2,s.kind=1∨s.kind=2∨s.kind=3:=by
  intro a b os k;induction k with
  | zero=>
   intro s hs;have hs:s∈fC a b:=hs;unfold fC at hs;obtain⟨i,_,rfl⟩:=List.mem_map.1 hs;exact .inl rfl
  | succ k ih=>
   intro s hs;have hs:s∈(uV a b os (b.length - 1 - k) (fU a b os k)).2:=hs;unfold uV at hs;split at hs
   ·exact ih s hs
   rcases List.mem_append.1 hs with hs | hs
   ·exact ih s hs
   simp only [List.mem_singleton] at hs;subst hs;show(if _ then(3:Int)else 2)=1∨_
   split <;> simp
 exact key _ _ _ _
theorem Ng(frm to:List Int):(eJ frm to).length≤frm.length+to.length:=by
 have h1:=Aa (a:=bF frm) (b:=bF to) (os:=bF (eC (bF frm) (bF to))) (bF to).length;have h2:=nM frm;have h3:=nM to;unfold eJ;omega
theorem Qv {k m M:Nat} {d:DS} {rk:Int→Nat} {σ:List (List D)} (h:IV k m M d rk σ)(i:Int):(aF d.l i).kids.length≤k+1:=by
 cases hl:dF d.l i with
 | false=>rw [fK hl];simp [Ew]
 | true=>
  obtain⟨n,h1,h2,h3⟩:=dQ hl;rw [h3];have:=(h.ip.sz n h1).1;omega
inductive KR(p:Int):List ST→RD→List TOp→RD→List TOp→Prop
 | nil (x:RD) (ops:List TOp):KR p [] x ops x ops
 | snoc {ss:List ST} {s:ST} {x y z:RD} {ops ops':List TOp} {c:Int} (h:KR p ss x ops y ops') (hd:Doc y (Gr p s) z c) (hc:∀τ,Ct prog 161 [eN y,jY (Gr p s)] τ (fun r τ'=>r= .tup [eN z,D.int c]∧τ'=τ)):KR p (ss++ [s]) x ops z (La ops' c (Gr p s))
def Ia(d:DS)(rk:Int→Nat)(x:RD)(ops:List TOp)(p:Int)(S:List ST)(c:Int)(y:RD)(ops':List TOp):Prop:=
 (dF d.l p=false∧c=11∧y=x∧ops'=ops)∨(dF d.l p=true∧¬(aF d.l p).kind=2∧c=14∧y=x∧ops'=ops)∨
 (dF d.l p=true∧(aF d.l p).kind=2∧(((∃s∈S,sG d.l (bN d.l rk) p s)∧c=1∧y=x∧ops'=ops)∨((∀s∈S,¬sG d.l (bN d.l rk) p s)∧c=0∧KR p S x ops y ops')))
theorem KR.step {p:Int} {S:List ST} {j:Nat} {x y z:RD} {ops ops':List TOp} {c:Int} (hj:j<S.length)(h:KR p (S.take j) x ops y ops')(hd:Doc y (Gr p S[j]) z c)(hc:∀τ,Ct prog 161 [eN y,jY (Gr p S[j])] τ (fun r τ'=>r= .tup [eN z,D.int c]∧τ'=τ)):
  KR p (S.take (j+1)) x ops z (La ops' c (Gr p S[j])):=by
 rw [List.take_succ_eq_append_getElem hj];exact h.snoc hd hc
theorem aF5 {x y:List ND} {rk rk':Int→Nat} {p:Int} (hx:Dec x rk)(hy:Dec y rk')(hk:∀i,i≠p→(aF y i).kids=(aF x i).kids):∀(n:Nat) (id:Int),rk id≤n→p∉bN x rk id→bN y rk' id=bN x rk id:=by
 intro n;induction n with
 | zero=>
  intro id hid hp;have hne:id≠p:=fun e=>hp (e ▸ iO hx id);rw [gA hx,gA hy,hk id hne,hx.nil (by omega)];rfl
 | succ n ih=>
  intro id hid hp;have hne:id≠p:=fun e=>hp (e ▸ iO hx id);rw [gA hx] at hp;rw [gA hx,gA hy,hk id hne];congr 1;exact iK fun k hk'=>ih k (by have:=hx id k hk';omega) fun hpk=>hp (List.mem_cons_of_mem _ (List.mem_flatMap.2 ⟨k,hk',hpk⟩))
structure KI(x y:RD)(p:Int)(now:List Int):Prop where
 nd:(y.l.map ND.ID).Nodup
 il:∀i,dF y.l i=dF x.l i
 kk:∀i,(aF y.l i).kids=if i=p then now else(aF x.l i).kids
 kd:(aF y.l p).kind=2
 pr:∀i,(aF y.l i).parent=if i∈now then p else(aF x.l i).parent
 isn:∀i∈now,dF x.l i=true
 nn:now.Nodup
theorem tA {l:List Int} {i:Nat} {x y:Int} :y∈dG l i x↔y=x∨y∈l:=lE
theorem KI.ins {x y z:RD} {p id at_:Int} {now:List Int} {c:Int} {rk:Int→Nat} {s1 s2:ByteArray} (h:KI x y p now)(hD:Dec x.l rk)(hp:dF x.l p=true)(hid:dF x.l id=true)(h0:id≠0)(hpar:(aF x.l id).parent<0)(hw:p∉bN x.l rk id)(hn:id∉now)(ha:0≤at_∧at_≤now.length)
  (hd:Doc y ⟨3,p,at_,id,s1,s2⟩ z c):c=0∧KI x z p (dG now at_.toNat id):=by
 obtain⟨b,b2,n,hb, -,hdo⟩:=hd;have he:=hdo.2.2.2.1 rfl;dsimp only at he;obtain⟨rk',hD',rfl⟩:=hb;have hpk:=h.kk p;rw [if_pos rfl] at hpk;have hbel:bN y.l rk' id=bN x.l rk id:=aF5 hD hD' (fun i hi=>by rw [h.kk i,if_neg hi]) (rk id) id (Nat.le_refl _) hw;have hpp:(aF y.l id).parent<0:=by rw [h.pr id,if_neg hn];exact hpar
 have hwb:gW y.l (bN y.l rk') p id=false:=by
  unfold gW;rw [hbel,Bool.and_eq_false_iff];refine .inr ?_;rw [List.any_eq_false];intro k hk;simp only [decide_eq_true_eq];rintro rfl;exact hw hk
 have e1:dF y.l p=true:=by rw [h.il];exact hp
 have e2:dF y.l id=true:=by rw [h.il];exact hid
 unfold insX at he;rw [if_neg (by rw [e1,e2];simp),if_neg (by simp [h.kd]),if_neg (by rw [hwb,hpk];rintro(q | q | q | q | q) <;> first | omega | simp at q)] at he;simp only [Prod.mk.injEq] at he;obtain⟨rfl,rfl⟩:=he;refine⟨rfl,?_⟩;obtain⟨P,hP,hPi,hPe⟩:=dQ e1;obtain⟨Q,hQ,hQi,hQe⟩:=dQ e2;have hne:p≠id:=by rintro rfl;exact hw (iO hD _)
 rw [hPe,hQe];rw [hPe] at hpk;have hnd1:((dH y.l { P with kids:=dG P.kids at_.toNat id }).map ND.ID).Nodup:=by rw [jE];exact h.nd
 have hQ1:Q∈dH y.l { P with kids:=dG P.kids at_.toNat id } :=by
  unfold dH;refine List.mem_map.2 ⟨Q,hQ,?_⟩;rw [if_neg];show ¬Q.ID=P.ID;rw [hQi,hPi];exact fun e=>hne e.symm
 have hf:∀i,aF (dH (dH y.l { P with kids:=dG P.kids at_.toNat id }) { Q with parent:=p }) i=if i=id then { Q with parent:=p } else if i=p then { P with kids:=dG P.kids at_.toNat id } else aF y.l i:=by
  intro i;rw [mC hnd1 (p:=Q) (p':= { Q with parent:=p }) hQ1 rfl,mC h.nd (p:=P) (p':= { P with kids:=dG P.kids at_.toNat id }) hP rfl,hQi,hPi]
 refine⟨by rw [jE,jE];exact h.nd,fun i=>by rw [uU,uU];exact h.il i,fun i=>?_,?_,fun i=>?_,fun i hi=>?_,oY h.nn hn⟩
 ·rw [hf];by_cases a:i=id
  ·subst a;rw [if_pos rfl,if_neg (fun e=>hne e.symm)];have:=h.kk i;rw [if_neg (fun e=>hne e.symm),hQe] at this;exact this
  rw [if_neg a];by_cases a2:i=p
  ·rw [if_pos a2,if_pos a2];show dG P.kids _ _=_;rw [hpk]
  rw [if_neg a2,if_neg a2,h.kk i,if_neg a2]
 ·rw [hf,if_neg hne,if_pos rfl];show P.kind=2;rw [← hPe];exact h.kd
 ·rw [hf];by_cases a:i=id
  ·rw [if_pos a,if_pos (tA.2 (.inl a))]
  rw [if_neg a];have e3:(i∈dG now at_.toNat id)↔i∈now:=by rw [tA];simp [a]
  simp only [e3];by_cases a2:i=p
  ·rw [if_pos a2,← h.pr i,a2,hPe]
  rw [if_neg a2];exact h.pr i
 rcases tA.1 hi with rfl | hi
 ·exact hid
 exact h.isn i hi
theorem KI.mov {x y z:RD} {p id at_:Int} {now:List Int} {c:Int} {s1 s2:ByteArray} (h:KI x y p now)(hp:dF x.l p=true)(hn:id∈now)(ha:0≤at_∧at_<now.length) {a3:Int}
  (hd:Doc y ⟨4,id,at_,a3,s1,s2⟩ z c):c=0∧KI x z p (dG (eP now id) at_.toNat id):=by
 obtain⟨b,b2,n,hb, -,hdo⟩:=hd;have he:=hdo.2.2.2.2.1 rfl;dsimp only at he;have hpk:=h.kk p;rw [if_pos rfl] at hpk;have hpar:(aF y.l id).parent=p:=by rw [h.pr id,if_pos hn]
 have e1:dF y.l p=true:=by rw [h.il];exact hp
 have e2:dF y.l id=true:=by rw [h.il];exact h.isn id hn
 unfold movX at he;rw [hpar,if_neg (by rw [e2];simp),hpk,if_neg (by rw [e1];rintro(q | q | q) <;> first | omega | simp at q)] at he;simp only [Prod.mk.injEq] at he;obtain⟨rfl,rfl⟩:=he;refine⟨rfl,?_⟩;obtain⟨P,hP,hPi,hPe⟩:=dQ e1;rw [hPe];rw [hPe] at hpk;have hf:∀i,aF (dH y.l { P with kids:=dG (eP now id) at_.toNat id }) i=if i=p then { P with kids:=dG (eP now id) at_.toNat id } else aF y.l i:=by
  intro i;rw [mC h.nd (p:=P) (p':= { P with kids:=dG (eP now id) at_.toNat id }) hP rfl,hPi]
 have hm:∀i,i∈dG (eP now id) at_.toNat id↔i∈now:=by
  intro i;rw [tA];unfold eP;rw [List.mem_filter];constructor
  ·rintro(rfl | q)
   ·exact hn
   exact q.1
  intro q;by_cases e:i=id
  ·exact .inl e
  exact .inr ⟨q,by simp [e]⟩
 refine⟨by rw [jE];exact h.nd,fun i=>by rw [uU];exact h.il i,fun i=>?_,?_,fun i=>?_,fun i hi=>h.isn i ((hm i).1 hi),oY (sN h.nn) (by unfold eP;simp)⟩
 ·rw [hf];by_cases a2:i=p
  ·rw [if_pos a2,if_pos a2]
  rw [if_neg a2,if_neg a2,h.kk i,if_neg a2]
 ·rw [hf,if_pos rfl];show P.kind=2;rw [← hPe];exact h.kd
 rw [hf];simp only [hm];by_cases a2:i=p
 ·rw [if_pos a2,← h.pr i,a2,hPe]
 rw [if_neg a2];exact h.pr i
theorem KR.inv {p:Int} {ss:List ST} {s:ST} {x z:RD} {ops ops':List TOp} (h:KR p (ss++ [s]) x ops z ops'):∃y ops0 c,KR p ss x ops y ops0∧Doc y (Gr p s) z c∧(∀τ,Ct prog 161 [eN y,jY (Gr p s)] τ (fun r τ'=>r= .tup [eN z,D.int c]∧τ'=τ))∧ops'=La ops0 c (Gr p s):=by
 generalize hS:ss++ [s]=S at h;cases h with
 | nil=>exact absurd hS (by simp)
 | snoc h hd hc=>
  obtain⟨e1,e2⟩:=List.append_inj' hS rfl;simp only [List.cons.injEq,and_true] at e2;subst e1;subst e2;exact⟨_,_,_,h,hd,hc,rfl⟩
theorem KR.inv0 {p:Int} {x z:RD} {ops ops':List TOp} (h:KR p [] x ops z ops'):z=x∧ops'=ops:=by
 generalize hS:([]:List ST)=S at h;cases h with
 | nil=>exact⟨rfl,rfl⟩
 | snoc h hd hc=>exact absurd hS (by simp)
theorem KI.zero {x:RD} {rk:Int→Nat} {p:Int} (hw:WT x.l rk)(hp:dF x.l p=true)(hk:(aF x.l p).kind=2):KI x x p (aF x.l p).kids:=by
 obtain⟨P,hP,hPi,hPe⟩:=dQ hp;refine⟨hw.nd,fun _=>rfl,fun i=>by split <;> simp [*],hk,fun i=>?_,fun i hi=>?_,by rw [hPe];exact hw.kn P hP⟩
 ·split
  ·rename_i hi;rw [hPe] at hi;obtain⟨c,hc,rfl,hc2⟩:=hw.kids P hP i hi;rw [iN hw.nd hc,hc2,hPi]
  rfl
 rw [hPe] at hi;obtain⟨c,hc,rfl,hc2⟩:=hw.kids P hP i hi;exact aF1 hw.nd hc
theorem drop_nil {a b:List Int} (h:fC a b= []):a.filter (fun x=>decide (x∈b))=a:=by
 unfold fC at h;rw [List.map_eq_nil_iff,List.filter_eq_nil_iff] at h;rw [List.filter_eq_self];intro x hx;have:=h x hx;simpa using this
theorem aCu {a b os:List Int} (k:Nat):∃t,(fU a b os (k+1)).2=(fU a b os k).2++t:=by
 show ∃t,(uV a b os _ _).2=_
 unfold uV;split
 ·exact⟨[],by simp⟩
 exact⟨_,rfl⟩
theorem Ht {a b os:List Int} {k n:Nat} (h:k≤n):∀s∈(fU a b os k).2,s∈(fU a b os n).2:=by
 induction h with
 | refl=>exact fun s h=>h
 | step h ih=>
  intro s hs;obtain⟨t,ht⟩:=aCu (a:=a) (b:=b) (os:=os) _;rw [ht];exact List.mem_append_left _ (ih s hs)
theorem Is {a b os:List Int} (hd:fC a b= []):∀k,∀x∈a,x∈(fU a b os k).1
 | 0,x,hx=>by show x∈a.filter _;rw [drop_nil hd];exact hx
 | k+1,x,hx=>by
  have ih:=Is (os:=os) hd k x hx;show x∈(uV a b os _ _).1
  unfold uV;split
  ·exact ih
  refine lE.2 ?_;by_cases e:x=b[b.length - 1 - k]?.getD 0
  ·exact .inl e
  exact .inr (uO ih e)
theorem qY {a b os:List Int} (hd:fC a b= []):∀k,k≤b.length→∀x∈(fU a b os k).1,x∈a∨∃j,b.length - k≤j∧∃h:j<b.length,b[j]=x
 | 0,_,x,hx=> .inl (by rw [← drop_nil hd];exact hx)
 | k + 1, hk, x, hx => by
  have hw:∀y∈(fU a b os k).1,y∈a∨∃j,b.length - (k+1)≤j∧∃h:j<b.length,b[j]=y:=fun y hy=>by
   rcases qY hd k (by omega) y hy with h | ⟨j,h1,h2⟩
   ·exact .inl h
   exact .inr ⟨j,by omega,h2⟩
  change x∈(uV a b os _ _).1 at hx;unfold uV at hx;split at hx
  ·exact hw x hx
  rcases lE.1 hx with e | h
  ·refine .inr ⟨b.length - 1 - k,by omega,by omega,?_⟩;rw [e,List.getElem?_eq_getElem (by omega)];rfl
  refine hw x ?_;unfold dJ uT at h;split at h
  ·exact(List.mem_filter.1 h).1
  exact h
theorem aAl {x y z0:RD} {rk:Int→Nat} {p:Int} {b os:List Int} {ops ops':List TOp} (hw:WT x.l rk)(hp:dF x.l p=true)(hk:(aF x.l p).kind=2)(hb:b.Nodup)(hos:∀i∈os,i∈(aF x.l p).kids∧i∈b) {n:Nat} (hn:n≤b.length)
  (hbad:∀s∈(fU (aF x.l p).kids b os n).2,¬sG x.l (bN x.l rk) p s) (h:KR p (fU (aF x.l p).kids b os n).2 x ops y ops'):
  ops'=ops++(fU (aF x.l p).kids b os n).2.map (Gr p)∧KI x y p (fU (aF x.l p).kids b os n).1∧(RPath z0 ops x→RPath z0 ops' y):=by
 have hd0:fC (aF x.l p).kids b= []:=by
  cases hq:fC (aF x.l p).kids b with
  | nil=>rfl
  | cons s t=>
   refine absurd ?_ (hbad s (Ht (Nat.zero_le n) s (by show s∈fC _ _;rw [hq];exact List.mem_cons_self)));have:s∈fC (aF x.l p).kids b:=by rw [hq];exact List.mem_cons_self
   unfold fC at this;obtain⟨i,_,rfl⟩:=List.mem_map.1 this;exact .inl rfl
 induction n generalizing y ops' with
 | zero=>
  change KR p (fC _ _) x ops y ops' at h;rw [hd0] at h;obtain⟨rfl,rfl⟩:=h.inv0;refine⟨?_,?_,id⟩
  ·show ops'=ops'++(fC _ _).map _;rw [hd0];simp
  show KI y y p ((aF y.l p).kids.filter _)
  rw [drop_nil hd0];exact KI.zero hw hp hk
 | succ k ih =>
  have hi:b.length - 1 - k<b.length:=by omega
  have hsub:∀s∈(fU (aF x.l p).kids b os k).2,¬sG x.l (bN x.l rk) p s:=fun s hs=>hbad s (Ht (Nat.le_succ k) s hs);change KR p (uV (aF x.l p).kids b os (b.length - 1 - k) (fU (aF x.l p).kids b os k)).2 x ops y ops' at h;change ∀s∈(uV (aF x.l p).kids b os (b.length - 1 - k) (fU (aF x.l p).kids b os k)).2,_ at hbad;show ops'=ops++(uV (aF x.l p).kids b os (b.length - 1 - k) (fU (aF x.l p).kids b os k)).2.map _∧KI x y p (uV (aF x.l p).kids b os (b.length - 1 - k) (fU (aF x.l p).kids b os k)).1∧_
  by_cases hx:b[b.length - 1 - k]∈os
  ·rw [sQ hi hx] at h ⊢;exact ih (by omega) hsub h
  rw [nD hi hx] at h hbad ⊢;have inv := uD (a := (aF x.l p).kids) hb hos k (by omega);obtain ⟨q1, -, -⟩ := Ow hb (show k < b.length by omega) inv rfl hi hx;obtain ⟨y0, ops0, c, h1, h2, h3, rfl⟩ := h.inv;obtain ⟨e1, ki, hrp⟩ := ih (by omega) hsub h1;have hbs := hbad _ (List.mem_append_right _ List.mem_cons_self);have hsup := Is (os := os) hd0 k;have honly := qY (os := os) hd0 k (by omega);generalize hs : fU (aF x.l p).kids b os k = s at *;generalize hii : b.length - 1 - k = i at *;have key : c = 0 ∧ KI x y p (dG (dJ (aF x.l p).kids s.1 b[i]) (oO b (dJ (aF x.l p).kids s.1 b[i]) i) b[i]) := by
   by_cases hka:b[i]∈(aF x.l p).kids
   ·rw [if_pos hka] at h2;have hg:dJ (aF x.l p).kids s.1 b[i]=eP s.1 b[i]:=by unfold dJ;rw [if_pos hka];rfl
    rw [hg] at h2 q1 ⊢;have hin:=hsup _ hka;have hlt:(eP s.1 b[i]).length<s.1.length:=by
     unfold eP;refine List.length_filter_lt_length_iff_exists.2 ⟨b[i],hin,by simp⟩
    have:=ki.mov (at_:=(oO b (eP s.1 b[i]) i:Nat)) hp hin ⟨by omega,by omega⟩ (by have:=h2;unfold Gr at this;exact this);simpa using this
   rw [if_neg hka] at h2 hbs;have hg:dJ (aF x.l p).kids s.1 b[i]=s.1:=by unfold dJ;rw [if_neg hka]
   rw [hg] at h2 q1 hbs ⊢;have hnow:b[i]∉s.1:=fun hm=>by
    rcases honly _ hm with hm | ⟨j,j1,j2,j3⟩
    ·exact hka hm
    have:=(List.getElem_inj hb).1 j3;omega
   have hlo:jP x.l (bN x.l rk) p b[i]=true:=by
    cases hq:jP x.l (bN x.l rk) p b[i] with
    | true=>rfl
    | false=>exact absurd (.inr ⟨rfl,hq⟩) hbs
   unfold jP at hlo;simp only [Bool.and_eq_true,decide_eq_true_eq,Bool.not_eq_true',ne_eq] at hlo;obtain⟨⟨⟨l1,l2⟩,l3⟩,l4⟩:=hlo;have hnb:p∉bN x.l rk b[i]:=fun hm=>by
    unfold gW at l4;rw [hp,l1,Bool.true_and,Bool.true_and,List.any_eq_false] at l4;have:=l4 p hm;simp at this
   have:=ki.ins (at_:=(oO b s.1 i:Nat)) hw.Dec hp l1 l2 l3 hnb hnow ⟨by omega,by omega⟩ (by have:=h2;unfold Gr at this;exact this);simpa using this
  obtain⟨rfl,ki'⟩:=key;refine⟨?_,ki',fun hr=>?_⟩
  ·unfold La;rw [if_pos rfl,e1];simp [List.map_append]
  unfold La;rw [if_pos rfl];exact(hrp hr).snoc h3
end Go.Proofs.YtbgfljpnhhdkoaaGreat
