import Derived.Test.YtbgfljpnhhdkoaaGreatWkWv0
import Derived.Test.YtbgfljpnhhdkoaaGreatWkWv4
open Go.Proofs.Tryz
set_option maxHeartbeats 1000000
set_option linter.all false
namespace Go.Proofs.YtbgfljpnhhdkoaaGreat
open Go Go.Vm
def jL(l:List ND)(bel:Int→List Int)(p i:Int):Bool:=cX l i && decide (i≠0) && decide ((aF l i).parent<0) && !iW l bel p i
def sX(l:List ND)(bel:Int→List Int)(p:Int)(s:ST):Prop:=s.kind=1∨(s.kind=2∧jL l bel p s.ID=false)
def Ee(p:Int)(s:ST):TOp:=if s.kind=2 then⟨3,p,s.at_,s.ID,⟨#[]⟩,⟨#[]⟩⟩else⟨4,s.ID,s.at_,0,⟨#[]⟩,⟨#[]⟩⟩
theorem Va {l:List ND} {bel:Int→List Int} {p i:Int} :jL l bel p i=true↔cX l i=true∧¬i=0∧(aF l i).parent<0∧iW l bel p i=false:=by
 unfold jL;simp [and_assoc]
theorem aF4 {l:List ND} {bel:Int→List Int} {p:Int} {s:ST} (h:s.kind=2)(hl:jL l bel p s.ID=false):sX l bel p s:= .inr ⟨h,hl⟩
theorem Ae {l:List ND} {bel:Int→List Int} {p:Int} {s:ST} (h:s.kind=2)(hl:jL l bel p s.ID=true):¬sX l bel p s:=by
 rintro(q | ⟨_,q⟩)
 ·omega
 rw [hl] at q;cases q
theorem Hh {l:List ND} {bel:Int→List Int} {p:Int} {s:ST} (h1:¬s.kind=1)(h:¬s.kind=2):¬sX l bel p s:=by
 rintro(q | ⟨q,_⟩) <;> omega
theorem Yz {α:Type} {Q:α→Prop} {S:List α} {k:Nat} (hk:k<S.length)(h:∀s∈S.take k,Q s)(hq:Q S[k]):∀s∈S.take (k+1),Q s:=by
 rw [List.take_succ_eq_append_getElem hk];intro s hs;rcases List.mem_append.1 hs with hs | hs
 ·exact h s hs
 simp at hs;subst hs;exact hq
theorem Ju(frm to:List Int):∀s∈fZ frm to,s.kind=1∨s.kind=2∨s.kind=3:=by
 have key:∀(a b os:List Int) k,∀s∈(jE a b os k).2,s.kind=1∨s.kind=2∨s.kind=3:=by
  intro a b os k;induction k with
  | zero=>
   intro s hs;have hs:s∈gK a b:=hs;unfold gK at hs;obtain⟨i,_,rfl⟩:=List.mem_map.1 hs;exact .inl rfl
  | succ k ih=>
   intro s hs;have hs:s∈(Bk a b os (b.length - 1 - k) (jE a b os k)).2:=hs;unfold Bk at hs;split at hs
   ·exact ih s hs
   rcases List.mem_append.1 hs with hs | hs
   ·exact ih s hs
   simp only [List.mem_singleton] at hs;subst hs;show(if _ then(3:Int)else 2)=1∨_
   split <;> simp
 exact key _ _ _ _
theorem Kw(frm to:List Int):(fZ frm to).length≤frm.length+to.length:=by
 have h1:=yX (a:=bW frm) (b:=bW to) (os:=bW (iK (bW frm) (bW to))) (bW to).length;have h2:=nD frm;have h3:=nD to;unfold fZ;omega
theorem aFc {k m M:Nat} {d:DS} {rk:Int→Nat} {σ:List (List D)} (h:IV k m M d rk σ)(i:Int):(aF d.l i).kids.length≤k+1:=by
 cases hl:cX d.l i with
 | false=>rw [fC hl];simp [Ej]
 | true=>
  obtain⟨n,h1,h2,h3⟩:=cY hl;rw [h3];have:=(h.ip.sz n h1).1;omega
inductive KR(p:Int):List ST→RD→List TOp→RD→List TOp→Prop
 | nil (x:RD) (ops:List TOp):KR p [] x ops x ops
 | snoc {ss:List ST} {s:ST} {x y z:RD} {ops ops':List TOp} {c:Int} (h:KR p ss x ops y ops') (hd:Doc y (Ee p s) z c) (hc:∀τ,Ct prog 161 [dO y,gE (Ee p s)] τ (fun r τ'=>r= .tup [dO z,D.int c]∧τ'=τ)):KR p (ss++ [s]) x ops z (xB ops' c (Ee p s))
def aAg(d:DS)(rk:Int→Nat)(x:RD)(ops:List TOp)(p:Int)(S:List ST)(c:Int)(y:RD)(ops':List TOp):Prop:=
 (cX d.l p=false∧c=11∧y=x∧ops'=ops)∨(cX d.l p=true∧¬(aF d.l p).kind=2∧c=14∧y=x∧ops'=ops)∨
 (cX d.l p=true∧(aF d.l p).kind=2∧(((∃s∈S,sX d.l (bL d.l rk) p s)∧c=1∧y=x∧ops'=ops)∨((∀s∈S,¬sX d.l (bL d.l rk) p s)∧c=0∧KR p S x ops y ops')))
theorem KR.step {p:Int} {S:List ST} {j:Nat} {x y z:RD} {ops ops':List TOp} {c:Int} (hj:j<S.length)(h:KR p (S.take j) x ops y ops')(hd:Doc y (Ee p S[j]) z c)(hc:∀τ,Ct prog 161 [dO y,gE (Ee p S[j])] τ (fun r τ'=>r= .tup [dO z,D.int c]∧τ'=τ)):
  KR p (S.take (j+1)) x ops z (xB ops' c (Ee p S[j])):=by
 rw [List.take_succ_eq_append_getElem hj];exact h.snoc hd hc
theorem aDy {x y:List ND} {rk rk':Int→Nat} {p:Int} (hx:Dec x rk)(hy:Dec y rk')(hk:∀i,i≠p→(aF y i).kids=(aF x i).kids):∀(n:Nat) (id:Int),rk id≤n→p∉bL x rk id→bL y rk' id=bL x rk id:=by
 intro n;induction n with
 | zero=>
  intro id hid hp;have hne:id≠p:=fun e=>hp (e ▸ iI hx id);rw [fS hx,fS hy,hk id hne,hx.nil (by omega)];rfl
 | succ n ih=>
  intro id hid hp;have hne:id≠p:=fun e=>hp (e ▸ iI hx id);rw [fS hx] at hp;rw [fS hx,fS hy,hk id hne];congr 1;exact iM fun k hk'=>ih k (by have:=hx id k hk';omega) fun hpk=>hp (List.mem_cons_of_mem _ (List.mem_flatMap.2 ⟨k,hk',hpk⟩))
structure KI(x y:RD)(p:Int)(now:List Int):Prop where
 nd:(y.l.map ND.ID).Nodup
 il:∀i,cX y.l i=cX x.l i
 kk:∀i,(aF y.l i).kids=if i=p then now else(aF x.l i).kids
 kd:(aF y.l p).kind=2
 pr:∀i,(aF y.l i).parent=if i∈now then p else(aF x.l i).parent
 isn:∀i∈now,cX x.l i=true
 nn:now.Nodup
theorem tW {l:List Int} {i:Nat} {x y:Int} :y∈dK l i x↔y=x∨y∈l:=kR
theorem KI.ins {x y z:RD} {p id at_:Int} {now:List Int} {c:Int} {rk:Int→Nat} {s1 s2:ByteArray} (h:KI x y p now)(hD:Dec x.l rk)(hp:cX x.l p=true)(hid:cX x.l id=true)(h0:id≠0)(hpar:(aF x.l id).parent<0)(hw:p∉bL x.l rk id)(hn:id∉now)(ha:0≤at_∧at_≤now.length)
  (hd:Doc y ⟨3,p,at_,id,s1,s2⟩ z c):c=0∧KI x z p (dK now at_.toNat id):=by
 obtain⟨b,b2,n,hb, -,hdo⟩:=hd;have he:=hdo.2.2.2.1 rfl;dsimp only at he;obtain⟨rk',hD',rfl⟩:=hb;have hpk:=h.kk p;rw [if_pos rfl] at hpk;have hbel:bL y.l rk' id=bL x.l rk id:=aDy hD hD' (fun i hi=>by rw [h.kk i,if_neg hi]) (rk id) id (Nat.le_refl _) hw;have hpp:(aF y.l id).parent<0:=by rw [h.pr id,if_neg hn];exact hpar
 have hwb:iW y.l (bL y.l rk') p id=false:=by
  unfold iW;rw [hbel,Bool.and_eq_false_iff];refine .inr ?_;rw [List.any_eq_false];intro k hk;simp only [decide_eq_true_eq];rintro rfl;exact hw hk
 have e1:cX y.l p=true:=by rw [h.il];exact hp
 have e2:cX y.l id=true:=by rw [h.il];exact hid
 unfold insX at he;rw [if_neg (by rw [e1,e2];simp),if_neg (by simp [h.kd]),if_neg (by rw [hwb,hpk];rintro(q | q | q | q | q) <;> first | omega | simp at q)] at he;simp only [Prod.mk.injEq] at he;obtain⟨rfl,rfl⟩:=he;refine⟨rfl,?_⟩;obtain⟨P,hP,hPi,hPe⟩:=cY e1;obtain⟨Q,hQ,hQi,hQe⟩:=cY e2;have hne:p≠id:=by rintro rfl;exact hw (iI hD _)
 rw [hPe,hQe];rw [hPe] at hpk;have hnd1:((dE y.l { P with kids:=dK P.kids at_.toNat id }).map ND.ID).Nodup:=by rw [jF];exact h.nd
 have hQ1:Q∈dE y.l { P with kids:=dK P.kids at_.toNat id } :=by
  unfold dE;refine List.mem_map.2 ⟨Q,hQ,?_⟩;rw [if_neg];show ¬Q.ID=P.ID;rw [hQi,hPi];exact fun e=>hne e.symm
 have hf:∀i,aF (dE (dE y.l { P with kids:=dK P.kids at_.toNat id }) { Q with parent:=p }) i=if i=id then { Q with parent:=p } else if i=p then { P with kids:=dK P.kids at_.toNat id } else aF y.l i:=by
  intro i;rw [kN hnd1 (p:=Q) (p':= { Q with parent:=p }) hQ1 rfl,kN h.nd (p:=P) (p':= { P with kids:=dK P.kids at_.toNat id }) hP rfl,hQi,hPi]
 refine⟨by rw [jF,jF];exact h.nd,fun i=>by rw [tC,tC];exact h.il i,fun i=>?_,?_,fun i=>?_,fun i hi=>?_,nX h.nn hn⟩
 ·rw [hf];by_cases a:i=id
  ·subst a;rw [if_pos rfl,if_neg (fun e=>hne e.symm)];have:=h.kk i;rw [if_neg (fun e=>hne e.symm),hQe] at this;exact this
  rw [if_neg a];by_cases a2:i=p
  ·rw [if_pos a2,if_pos a2];show dK P.kids _ _=_;rw [hpk]
  rw [if_neg a2,if_neg a2,h.kk i,if_neg a2]
 ·rw [hf,if_neg hne,if_pos rfl];show P.kind=2;rw [← hPe];exact h.kd
 ·rw [hf];by_cases a:i=id
  ·rw [if_pos a,if_pos (tW.2 (.inl a))]
  rw [if_neg a];have e3:(i∈dK now at_.toNat id)↔i∈now:=by rw [tW];simp [a]
  simp only [e3];by_cases a2:i=p
  ·rw [if_pos a2,← h.pr i,a2,hPe]
  rw [if_neg a2];exact h.pr i
 rcases tW.1 hi with rfl | hi
 ·exact hid
 exact h.isn i hi
theorem KI.mov {x y z:RD} {p id at_:Int} {now:List Int} {c:Int} {s1 s2:ByteArray} (h:KI x y p now)(hp:cX x.l p=true)(hn:id∈now)(ha:0≤at_∧at_<now.length) {a3:Int}
  (hd:Doc y ⟨4,id,at_,a3,s1,s2⟩ z c):c=0∧KI x z p (dK (eK now id) at_.toNat id):=by
 obtain⟨b,b2,n,hb, -,hdo⟩:=hd;have he:=hdo.2.2.2.2.1 rfl;dsimp only at he;have hpk:=h.kk p;rw [if_pos rfl] at hpk;have hpar:(aF y.l id).parent=p:=by rw [h.pr id,if_pos hn]
 have e1:cX y.l p=true:=by rw [h.il];exact hp
 have e2:cX y.l id=true:=by rw [h.il];exact h.isn id hn
 unfold movX at he;rw [hpar,if_neg (by rw [e2];simp),hpk,if_neg (by rw [e1];rintro(q | q | q) <;> first | omega | simp at q)] at he;simp only [Prod.mk.injEq] at he;obtain⟨rfl,rfl⟩:=he;refine⟨rfl,?_⟩;obtain⟨P,hP,hPi,hPe⟩:=cY e1;rw [hPe];rw [hPe] at hpk;have hf:∀i,aF (dE y.l { P with kids:=dK (eK now id) at_.toNat id }) i=if i=p then { P with kids:=dK (eK now id) at_.toNat id } else aF y.l i:=by
  intro i;rw [kN h.nd (p:=P) (p':= { P with kids:=dK (eK now id) at_.toNat id }) hP rfl,hPi]
 have hm:∀i,i∈dK (eK now id) at_.toNat id↔i∈now:=by
  intro i;rw [tW];unfold eK;rw [List.mem_filter];constructor
  ·rintro(rfl | q)
   ·exact hn
   exact q.1
  intro q;by_cases e:i=id
  ·exact .inl e
  exact .inr ⟨q,by simp [e]⟩
 refine⟨by rw [jF];exact h.nd,fun i=>by rw [tC];exact h.il i,fun i=>?_,?_,fun i=>?_,fun i hi=>h.isn i ((hm i).1 hi),nX (sL h.nn) (by unfold eK;simp)⟩
 ·rw [hf];by_cases a2:i=p
  ·rw [if_pos a2,if_pos a2]
  rw [if_neg a2,if_neg a2,h.kk i,if_neg a2]
 ·rw [hf,if_pos rfl];show P.kind=2;rw [← hPe];exact h.kd
 rw [hf];simp only [hm];by_cases a2:i=p
 ·rw [if_pos a2,← h.pr i,a2,hPe]
 rw [if_neg a2];exact h.pr i
theorem KR.inv {p:Int} {ss:List ST} {s:ST} {x z:RD} {ops ops':List TOp} (h:KR p (ss++ [s]) x ops z ops'):∃y ops0 c,KR p ss x ops y ops0∧Doc y (Ee p s) z c∧(∀τ,Ct prog 161 [dO y,gE (Ee p s)] τ (fun r τ'=>r= .tup [dO z,D.int c]∧τ'=τ))∧ops'=xB ops0 c (Ee p s):=by
 generalize hS:ss++ [s]=S at h;cases h with
 | nil=>exact absurd hS (by simp)
 | snoc h hd hc=>
  obtain⟨e1,e2⟩:=List.append_inj' hS rfl;simp only [List.cons.injEq,and_true] at e2;subst e1;subst e2;exact⟨_,_,_,h,hd,hc,rfl⟩
theorem KR.inv0 {p:Int} {x z:RD} {ops ops':List TOp} (h:KR p [] x ops z ops'):z=x∧ops'=ops:=by
 generalize hS:([]:List ST)=S at h;cases h with
 | nil=>exact⟨rfl,rfl⟩
 | snoc h hd hc=>exact absurd hS (by simp)
theorem KI.zero {x:RD} {rk:Int→Nat} {p:Int} (hw:WT x.l rk)(hp:cX x.l p=true)(hk:(aF x.l p).kind=2):KI x x p (aF x.l p).kids:=by
 obtain⟨P,hP,hPi,hPe⟩:=cY hp;refine⟨hw.nd,fun _=>rfl,fun i=>by split <;> simp [*],hk,fun i=>?_,fun i hi=>?_,by rw [hPe];exact hw.kn P hP⟩
 ·split
  ·rename_i hi;rw [hPe] at hi;obtain⟨c,hc,rfl,hc2⟩:=hw.kids P hP i hi;rw [gW hw.nd hc,hc2,hPi]
  rfl
 rw [hPe] at hi;obtain⟨c,hc,rfl,hc2⟩:=hw.kids P hP i hi;exact aD6 hw.nd hc
theorem drop_nil {a b:List Int} (h:gK a b= []):a.filter (fun x=>decide (x∈b))=a:=by
 unfold gK at h;rw [List.map_eq_nil_iff,List.filter_eq_nil_iff] at h;rw [List.filter_eq_self];intro x hx;have:=h x hx;simpa using this
theorem aAp {a b os:List Int} (k:Nat):∃t,(jE a b os (k+1)).2=(jE a b os k).2++t:=by
 show ∃t,(Bk a b os _ _).2=_
 unfold Bk;split
 ·exact⟨[],by simp⟩
 exact⟨_,rfl⟩
theorem Ke {a b os:List Int} {k n:Nat} (h:k≤n):∀s∈(jE a b os k).2,s∈(jE a b os n).2:=by
 induction h with
 | refl=>exact fun s h=>h
 | step h ih=>
  intro s hs;obtain⟨t,ht⟩:=aAp (a:=a) (b:=b) (os:=os) _;rw [ht];exact List.mem_append_left _ (ih s hs)
theorem Jk {a b os:List Int} (hd:gK a b= []):∀k,∀x∈a,x∈(jE a b os k).1
 | 0,x,hx=>by show x∈a.filter _;rw [drop_nil hd];exact hx
 | k+1,x,hx=>by
  have ih:=Jk (os:=os) hd k x hx;show x∈(Bk a b os _ _).1
  unfold Bk;split
  ·exact ih
  refine kR.2 ?_;by_cases e:x=b[b.length - 1 - k]?.getD 0
  ·exact .inl e
  exact .inr (uD ih e)
theorem Ci {a b os:List Int} (hd:gK a b= []):∀k,k≤b.length→∀x∈(jE a b os k).1,x∈a∨∃j,b.length - k≤j∧∃h:j<b.length,b[j]=x
 | 0,_,x,hx=> .inl (by rw [← drop_nil hd];exact hx)
 | k + 1, hk, x, hx => by
  have hw:∀y∈(jE a b os k).1,y∈a∨∃j,b.length - (k+1)≤j∧∃h:j<b.length,b[j]=y:=fun y hy=>by
   rcases Ci hd k (by omega) y hy with h | ⟨j,h1,h2⟩
   ·exact .inl h
   exact .inr ⟨j,by omega,h2⟩
  change x∈(Bk a b os _ _).1 at hx;unfold Bk at hx;split at hx
  ·exact hw x hx
  rcases kR.1 hx with e | h
  ·refine .inr ⟨b.length - 1 - k,by omega,by omega,?_⟩;rw [e,List.getElem?_eq_getElem (by omega)];rfl
  refine hw x ?_;unfold dP zG at h;split at h
  ·exact(List.mem_filter.1 h).1
  exact h
theorem aA6 {x y z0:RD} {rk:Int→Nat} {p:Int} {b os:List Int} {ops ops':List TOp} (hw:WT x.l rk)(hp:cX x.l p=true)(hk:(aF x.l p).kind=2)(hb:b.Nodup)(hos:∀i∈os,i∈(aF x.l p).kids∧i∈b) {n:Nat} (hn:n≤b.length)
  (hbad:∀s∈(jE (aF x.l p).kids b os n).2,¬sX x.l (bL x.l rk) p s) (h:KR p (jE (aF x.l p).kids b os n).2 x ops y ops'):
  ops'=ops++(jE (aF x.l p).kids b os n).2.map (Ee p)∧KI x y p (jE (aF x.l p).kids b os n).1∧(RPath z0 ops x→RPath z0 ops' y):=by
 have hd0:gK (aF x.l p).kids b= []:=by
  cases hq:gK (aF x.l p).kids b with
  | nil=>rfl
  | cons s t=>
   refine absurd ?_ (hbad s (Ke (Nat.zero_le n) s (by show s∈gK _ _;rw [hq];exact List.mem_cons_self)));have:s∈gK (aF x.l p).kids b:=by rw [hq];exact List.mem_cons_self
   unfold gK at this;obtain⟨i,_,rfl⟩:=List.mem_map.1 this;exact .inl rfl
 induction n generalizing y ops' with
 | zero=>
  change KR p (gK _ _) x ops y ops' at h;rw [hd0] at h;obtain⟨rfl,rfl⟩:=h.inv0;refine⟨?_,?_,id⟩
  ·show ops'=ops'++(gK _ _).map _;rw [hd0];simp
  show KI y y p ((aF y.l p).kids.filter _)
  rw [drop_nil hd0];exact KI.zero hw hp hk
 | succ k ih =>
  have hi:b.length - 1 - k<b.length:=by omega
  have hsub:∀s∈(jE (aF x.l p).kids b os k).2,¬sX x.l (bL x.l rk) p s:=fun s hs=>hbad s (Ke (Nat.le_succ k) s hs);change KR p (Bk (aF x.l p).kids b os (b.length - 1 - k) (jE (aF x.l p).kids b os k)).2 x ops y ops' at h;change ∀s∈(Bk (aF x.l p).kids b os (b.length - 1 - k) (jE (aF x.l p).kids b os k)).2,_ at hbad;show ops'=ops++(Bk (aF x.l p).kids b os (b.length - 1 - k) (jE (aF x.l p).kids b os k)).2.map _∧KI x y p (Bk (aF x.l p).kids b os (b.length - 1 - k) (jE (aF x.l p).kids b os k)).1∧_
  by_cases hx:b[b.length - 1 - k]∈os
  ·rw [aAh hi hx] at h ⊢;exact ih (by omega) hsub h
  rw [tZ hi hx] at h hbad ⊢;have inv := zW (a := (aF x.l p).kids) hb hos k (by omega);obtain ⟨q1, -, -⟩ := aAi hb (show k < b.length by omega) inv rfl hi hx;obtain ⟨y0, ops0, c, h1, h2, h3, rfl⟩ := h.inv;obtain ⟨e1, ki, hrp⟩ := ih (by omega) hsub h1;have hbs := hbad _ (List.mem_append_right _ List.mem_cons_self);have hsup := Jk (os := os) hd0 k;have honly := Ci (os := os) hd0 k (by omega);generalize hs : jE (aF x.l p).kids b os k = s at *;generalize hii : b.length - 1 - k = i at *;have key : c = 0 ∧ KI x y p (dK (dP (aF x.l p).kids s.1 b[i]) (pA b (dP (aF x.l p).kids s.1 b[i]) i) b[i]) := by
   by_cases hka:b[i]∈(aF x.l p).kids
   ·rw [if_pos hka] at h2;have hg:dP (aF x.l p).kids s.1 b[i]=eK s.1 b[i]:=by unfold dP;rw [if_pos hka];rfl
    rw [hg] at h2 q1 ⊢;have hin:=hsup _ hka;have hlt:(eK s.1 b[i]).length<s.1.length:=by
     unfold eK;refine List.length_filter_lt_length_iff_exists.2 ⟨b[i],hin,by simp⟩
    have:=ki.mov (at_:=(pA b (eK s.1 b[i]) i:Nat)) hp hin ⟨by omega,by omega⟩ (by have:=h2;unfold Ee at this;exact this);simpa using this
   rw [if_neg hka] at h2 hbs;have hg:dP (aF x.l p).kids s.1 b[i]=s.1:=by unfold dP;rw [if_neg hka]
   rw [hg] at h2 q1 hbs ⊢;have hnow:b[i]∉s.1:=fun hm=>by
    rcases honly _ hm with hm | ⟨j,j1,j2,j3⟩
    ·exact hka hm
    have:=(List.getElem_inj hb).1 j3;omega
   have hlo:jL x.l (bL x.l rk) p b[i]=true:=by
    cases hq:jL x.l (bL x.l rk) p b[i] with
    | true=>rfl
    | false=>exact absurd (.inr ⟨rfl,hq⟩) hbs
   unfold jL at hlo;simp only [Bool.and_eq_true,decide_eq_true_eq,Bool.not_eq_true',ne_eq] at hlo;obtain⟨⟨⟨l1,l2⟩,l3⟩,l4⟩:=hlo;have hnb:p∉bL x.l rk b[i]:=fun hm=>by
    unfold iW at l4;rw [hp,l1,Bool.true_and,Bool.true_and,List.any_eq_false] at l4;have:=l4 p hm;simp at this
   have:=ki.ins (at_:=(pA b s.1 i:Nat)) hw.Dec hp l1 l2 l3 hnb hnow ⟨by omega,by omega⟩ (by have:=h2;unfold Ee at this;exact this);simpa using this
  obtain⟨rfl,ki'⟩:=key;refine⟨?_,ki',fun hr=>?_⟩
  ·unfold xB;rw [if_pos rfl,e1];simp [List.map_append]
  unfold xB;rw [if_pos rfl];exact(hrp hr).snoc h3
end Go.Proofs.YtbgfljpnhhdkoaaGreat
