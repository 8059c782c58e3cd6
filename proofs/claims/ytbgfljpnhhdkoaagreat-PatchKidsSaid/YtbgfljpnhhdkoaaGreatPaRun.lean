import Derived.Test.YtbgfljpnhhdkoaaGreatWkWv0
import Derived.Test.YtbgfljpnhhdkoaaGreatWkWv4
open Go.Proofs.Tryz
set_option linter.all false
set_option maxHeartbeats 1000000
namespace Go.Proofs.YtbgfljpnhhdkoaaGreat
open Go Go.Vm
def iQ(l:List ND)(bel:Int→List Int)(p i:Int):Bool:=cZ l i && decide (i≠0) && decide ((aG l i).parent<0) && !iM l bel p i
def qB(l:List ND)(bel:Int→List Int)(p:Int)(s:ST):Prop:=s.kind=1∨(s.kind=2∧iQ l bel p s.ID=false)
def xM(p:Int)(s:ST):TOp:=if s.kind=2 then⟨3,p,s.at_,s.ID,⟨#[]⟩,⟨#[]⟩⟩else⟨4,s.ID,s.at_,0,⟨#[]⟩,⟨#[]⟩⟩
theorem wR {l:List ND} {bel:Int→List Int} {p i:Int} :iQ l bel p i=true↔cZ l i=true∧¬i=0∧(aG l i).parent<0∧iM l bel p i=false:=by
 unfold iQ;simp [and_assoc]
theorem uV {l:List ND} {bel:Int→List Int} {p:Int} {s:ST} (h:s.kind=2)(hl:iQ l bel p s.ID=false):qB l bel p s:= .inr ⟨h,hl⟩
theorem rR {l:List ND} {bel:Int→List Int} {p i:Int} (h:¬(cZ l i=true∧¬i=0∧(aG l i).parent<0∧iM l bel p i=false)):iQ l bel p i=false:=by
 cases q:iQ l bel p i with
 | false=>rfl
 | true=>exact absurd (wR.1 q) h
theorem tV {l:List ND} {bel:Int→List Int} {p:Int} {s:ST} (h:s.kind=2)(hl:iQ l bel p s.ID=true):¬qB l bel p s:=by
 rintro(q | ⟨_,q⟩)
 ·omega
 rw [hl] at q;cases q
theorem Bj {l:List ND} {bel:Int→List Int} {p:Int} {s:ST} (h1:¬s.kind=1)(h:¬s.kind=2):¬qB l bel p s:=by
 rintro(q | ⟨q,_⟩) <;> omega
theorem Hi {α:Type} {Q:α→Prop} {S:List α} {k:Nat} (hk:k<S.length)(h:∀s∈S.take k,Q s)(hq:Q S[k]):∀s∈S.take (k+1),Q s:=by
 rw [List.take_succ_eq_append_getElem hk];intro s hs;rcases List.mem_append.1 hs with hs | hs
 ·exact h s hs
 simp at hs;subst hs;exact hq
theorem aI9 {α β:Type} (f:α→β) {S:List α} {k:Nat} (hk:k<S.length):(S.take (k+1)).map f=(S.take k).map f++ [f S[k]]:=by
 rw [List.take_succ_eq_append_getElem hk,List.map_append];rfl
theorem xQ(frm to:List Int):∀s∈eX frm to,s.kind=1∨s.kind=2∨s.kind=3:=by
 have key:∀(a b os:List Int) k,∀s∈(gS a b os k).2,s.kind=1∨s.kind=2∨s.kind=3:=by
  intro a b os k;induction k with
  | zero=>
   intro s hs;have hs:s∈gB a b:=hs;unfold gB at hs;obtain⟨i,_,rfl⟩:=List.mem_map.1 hs;exact .inl rfl
  | succ k ih=>
   intro s hs;have hs:s∈(zQ a b os (b.length - 1 - k) (gS a b os k)).2:=hs;unfold zQ at hs;split at hs
   ·exact ih s hs
   rcases List.mem_append.1 hs with hs | hs
   ·exact ih s hs
   simp only [List.mem_singleton] at hs;subst hs;show(if _ then(3:Int)else 2)=1∨_
   split <;> simp
 exact key _ _ _ _
theorem Aq(frm to:List Int):(eX frm to).length≤frm.length+to.length:=by
 have h1:=uN (a:=bI frm) (b:=bI to) (os:=bI (gJ (bI frm) (bI to))) (bI to).length;have h2:=kK frm;have h3:=kK to;unfold eX;omega
theorem aDz {k m M:Nat} {d:DS} {rk:Int→Nat} {σ:List (List D)} (h:IV k m M d rk σ)(i:Int):(aG d.l i).kids.length≤k+1:=by
 cases hl:cZ d.l i with
 | false=>rw [fF hl];simp [Hb]
 | true=>
  obtain⟨n,h1,h2,h3⟩:=dM hl;rw [h3];have:=(h.ip.sz n h1).1;omega
def RK(x:RD)(bel:Int→List Int)(p:Int)(S:List ST)(o:List TOp)(c:Int):Prop:=(cZ x.l p=false∧c=11∧o= [])∨(cZ x.l p=true∧¬(aG x.l p).kind=2∧c=14∧o= [])∨
 (cZ x.l p=true∧(aG x.l p).kind=2∧(((∃s∈S,qB x.l bel p s)∧c=1∧o= [])∨((∀s∈S,¬qB x.l bel p s)∧c=0∧o=S.map (xM p))))
def yE(p:Int)(S:List ST)(k:Nat):List TOp:=(S.take k).map (xM p)
theorem Ed(p:Int) {S:List ST} {k:Nat} (hk:k<S.length):yE p S (k+1)=yE p S k++ [xM p S[k]]:=aI9 _ hk
theorem Yq(p:Int)(S:List ST):yE p S S.length=S.map (xM p):=by unfold yE;rw [List.take_length]
theorem Xo(p:Int)(S:List ST)(k:Nat)(h:k≤S.length):(yE p S k).length=k:=by simp [yE];omega
inductive KR(p:Int):List ST→RD→List TOp→RD→List TOp→Prop
 | nil (x:RD) (ops:List TOp):KR p [] x ops x ops
 | snoc {ss:List ST} {s:ST} {x y z:RD} {ops ops':List TOp} {c:Int} (h:KR p ss x ops y ops') (hd:Doc y (xM p s) z c) (hc:∀τ,Ct prog 161 [dS y,gX (xM p s)] τ (fun r τ'=>r= .tup [dS z,D.int c]∧τ'=τ)):KR p (ss++ [s]) x ops z (Lg ops' c (xM p s))
def Pv(d:DS)(rk:Int→Nat)(x:RD)(ops:List TOp)(p:Int)(S:List ST)(c:Int)(y:RD)(ops':List TOp):Prop:=
 (cZ d.l p=false∧c=11∧y=x∧ops'=ops)∨(cZ d.l p=true∧¬(aG d.l p).kind=2∧c=14∧y=x∧ops'=ops)∨
 (cZ d.l p=true∧(aG d.l p).kind=2∧(((∃s∈S,qB d.l (bJ d.l rk) p s)∧c=1∧y=x∧ops'=ops)∨((∀s∈S,¬qB d.l (bJ d.l rk) p s)∧c=0∧KR p S x ops y ops')))
theorem KR.step {p:Int} {S:List ST} {j:Nat} {x y z:RD} {ops ops':List TOp} {c:Int} (hj:j<S.length)(h:KR p (S.take j) x ops y ops')(hd:Doc y (xM p S[j]) z c)(hc:∀τ,Ct prog 161 [dS y,gX (xM p S[j])] τ (fun r τ'=>r= .tup [dS z,D.int c]∧τ'=τ)):
  KR p (S.take (j+1)) x ops z (Lg ops' c (xM p S[j])):=by
 rw [List.take_succ_eq_append_getElem hj];exact h.snoc hd hc
theorem aF7 {x y:List ND} {rk rk':Int→Nat} {p:Int} (hx:Dec x rk)(hy:Dec y rk')(hk:∀i,i≠p→(aG y i).kids=(aG x i).kids):∀(n:Nat) (id:Int),rk id≤n→p∉bJ x rk id→bJ y rk' id=bJ x rk id:=by
 intro n;induction n with
 | zero=>
  intro id hid hp;have hne:id≠p:=fun e=>hp (e ▸ iJ hx id);rw [fX hx,fX hy,hk id hne,hx.nil (by omega)];rfl
 | succ n ih=>
  intro id hid hp;have hne:id≠p:=fun e=>hp (e ▸ iJ hx id);rw [fX hx] at hp;rw [fX hx,fX hy,hk id hne];congr 1;exact iP fun k hk'=>ih k (by have:=hx id k hk';omega) fun hpk=>hp (List.mem_cons_of_mem _ (List.mem_flatMap.2 ⟨k,hk',hpk⟩))
structure KI(x y:RD)(p:Int)(now:List Int):Prop where
 nd:(y.l.map ND.ID).Nodup
 il:∀i,cZ y.l i=cZ x.l i
 kk:∀i,(aG y.l i).kids=if i=p then now else(aG x.l i).kids
 kd:(aG y.l p).kind=2
 pr:∀i,(aG y.l i).parent=if i∈now then p else(aG x.l i).parent
 isn:∀i∈now,cZ x.l i=true
 nn:now.Nodup
theorem uH {l:List Int} {i:Nat} {x y:Int} :y∈dE l i x↔y=x∨y∈l:=lG
theorem KI.ins {x y z:RD} {p id at_:Int} {now:List Int} {c:Int} {rk:Int→Nat} {s1 s2:ByteArray} (h:KI x y p now)(hD:Dec x.l rk)(hp:cZ x.l p=true)(hid:cZ x.l id=true)(h0:id≠0)(hpar:(aG x.l id).parent<0)(hw:p∉bJ x.l rk id)(hn:id∉now)(ha:0≤at_∧at_≤now.length)
  (hd:Doc y ⟨3,p,at_,id,s1,s2⟩ z c):c=0∧KI x z p (dE now at_.toNat id):=by
 obtain⟨b,b2,n,hb, -,hdo⟩:=hd;have he:=hdo.2.2.2.1 rfl;dsimp only at he;obtain⟨rk',hD',rfl⟩:=hb;have hpk:=h.kk p;rw [if_pos rfl] at hpk;have hbel:bJ y.l rk' id=bJ x.l rk id:=aF7 hD hD' (fun i hi=>by rw [h.kk i,if_neg hi]) (rk id) id (Nat.le_refl _) hw;have hpp:(aG y.l id).parent<0:=by rw [h.pr id,if_neg hn];exact hpar
 have hwb:iM y.l (bJ y.l rk') p id=false:=by
  unfold iM;rw [hbel,Bool.and_eq_false_iff];refine .inr ?_;rw [List.any_eq_false];intro k hk;simp only [decide_eq_true_eq];rintro rfl;exact hw hk
 have e1:cZ y.l p=true:=by rw [h.il];exact hp
 have e2:cZ y.l id=true:=by rw [h.il];exact hid
 unfold insX at he;rw [if_neg (by rw [e1,e2];simp),if_neg (by simp [h.kd]),if_neg (by rw [hwb,hpk];rintro(q | q | q | q | q) <;> first | omega | simp at q)] at he;simp only [Prod.mk.injEq] at he;obtain⟨rfl,rfl⟩:=he;refine⟨rfl,?_⟩;obtain⟨P,hP,hPi,hPe⟩:=dM e1;obtain⟨Q,hQ,hQi,hQe⟩:=dM e2;have hne:p≠id:=by rintro rfl;exact hw (iJ hD _)
 rw [hPe,hQe];rw [hPe] at hpk;have hnd1:((dK y.l { P with kids:=dE P.kids at_.toNat id }).map ND.ID).Nodup:=by rw [jJ];exact h.nd
 have hQ1:Q∈dK y.l { P with kids:=dE P.kids at_.toNat id } :=by
  unfold dK;refine List.mem_map.2 ⟨Q,hQ,?_⟩;rw [if_neg];show ¬Q.ID=P.ID;rw [hQi,hPi];exact fun e=>hne e.symm
 have hf:∀i,aG (dK (dK y.l { P with kids:=dE P.kids at_.toNat id }) { Q with parent:=p }) i=if i=id then { Q with parent:=p } else if i=p then { P with kids:=dE P.kids at_.toNat id } else aG y.l i:=by
  intro i;rw [mA hnd1 (p:=Q) (p':= { Q with parent:=p }) hQ1 rfl,mA h.nd (p:=P) (p':= { P with kids:=dE P.kids at_.toNat id }) hP rfl,hQi,hPi]
 refine⟨by rw [jJ,jJ];exact h.nd,fun i=>by rw [tA,tA];exact h.il i,fun i=>?_,?_,fun i=>?_,fun i hi=>?_,oY h.nn hn⟩
 ·rw [hf];by_cases a:i=id
  ·subst a;rw [if_pos rfl,if_neg (fun e=>hne e.symm)];have:=h.kk i;rw [if_neg (fun e=>hne e.symm),hQe] at this;exact this
  rw [if_neg a];by_cases a2:i=p
  ·rw [if_pos a2,if_pos a2];show dE P.kids _ _=_;rw [hpk]
  rw [if_neg a2,if_neg a2,h.kk i,if_neg a2]
 ·rw [hf,if_neg hne,if_pos rfl];show P.kind=2;rw [← hPe];exact h.kd
 ·rw [hf];by_cases a:i=id
  ·rw [if_pos a,if_pos (uH.2 (.inl a))]
  rw [if_neg a];have e3:(i∈dE now at_.toNat id)↔i∈now:=by rw [uH];simp [a]
  simp only [e3];by_cases a2:i=p
  ·rw [if_pos a2,← h.pr i,a2,hPe]
  rw [if_neg a2];exact h.pr i
 rcases uH.1 hi with rfl | hi
 ·exact hid
 exact h.isn i hi
theorem KI.mov {x y z:RD} {p id at_:Int} {now:List Int} {c:Int} {s1 s2:ByteArray} (h:KI x y p now)(hp:cZ x.l p=true)(hn:id∈now)(ha:0≤at_∧at_<now.length) {a3:Int}
  (hd:Doc y ⟨4,id,at_,a3,s1,s2⟩ z c):c=0∧KI x z p (dE (eG now id) at_.toNat id):=by
 obtain⟨b,b2,n,hb, -,hdo⟩:=hd;have he:=hdo.2.2.2.2.1 rfl;dsimp only at he;have hpk:=h.kk p;rw [if_pos rfl] at hpk;have hpar:(aG y.l id).parent=p:=by rw [h.pr id,if_pos hn]
 have e1:cZ y.l p=true:=by rw [h.il];exact hp
 have e2:cZ y.l id=true:=by rw [h.il];exact h.isn id hn
 unfold movX at he;rw [hpar,if_neg (by rw [e2];simp),hpk,if_neg (by rw [e1];rintro(q | q | q) <;> first | omega | simp at q)] at he;simp only [Prod.mk.injEq] at he;obtain⟨rfl,rfl⟩:=he;refine⟨rfl,?_⟩;obtain⟨P,hP,hPi,hPe⟩:=dM e1;rw [hPe];rw [hPe] at hpk;have hf:∀i,aG (dK y.l { P with kids:=dE (eG now id) at_.toNat id }) i=if i=p then { P with kids:=dE (eG now id) at_.toNat id } else aG y.l i:=by
  intro i;rw [mA h.nd (p:=P) (p':= { P with kids:=dE (eG now id) at_.toNat id }) hP rfl,hPi]
 have hm:∀i,i∈dE (eG now id) at_.toNat id↔i∈now:=by
  intro i;rw [uH];unfold eG;rw [List.mem_filter];constructor
  ·rintro(rfl | q)
   ·exact hn
   exact q.1
  intro q;by_cases e:i=id
  ·exact .inl e
  exact .inr ⟨q,by simp [e]⟩
 refine⟨by rw [jJ];exact h.nd,fun i=>by rw [tA];exact h.il i,fun i=>?_,?_,fun i=>?_,fun i hi=>h.isn i ((hm i).1 hi),oY (sR h.nn) (by unfold eG;simp)⟩
 ·rw [hf];by_cases a2:i=p
  ·rw [if_pos a2,if_pos a2]
  rw [if_neg a2,if_neg a2,h.kk i,if_neg a2]
 ·rw [hf,if_pos rfl];show P.kind=2;rw [← hPe];exact h.kd
 rw [hf];simp only [hm];by_cases a2:i=p
 ·rw [if_pos a2,← h.pr i,a2,hPe]
 rw [if_neg a2];exact h.pr i
theorem KR.inv {p:Int} {ss:List ST} {s:ST} {x z:RD} {ops ops':List TOp} (h:KR p (ss++ [s]) x ops z ops'):∃y ops0 c,KR p ss x ops y ops0∧Doc y (xM p s) z c∧(∀τ,Ct prog 161 [dS y,gX (xM p s)] τ (fun r τ'=>r= .tup [dS z,D.int c]∧τ'=τ))∧ops'=Lg ops0 c (xM p s):=by
 generalize hS:ss++ [s]=S at h;cases h with
 | nil=>exact absurd hS (by simp)
 | snoc h hd hc=>
  obtain⟨e1,e2⟩:=List.append_inj' hS rfl;simp only [List.cons.injEq,and_true] at e2;subst e1;subst e2;exact⟨_,_,_,h,hd,hc,rfl⟩
theorem KR.inv0 {p:Int} {x z:RD} {ops ops':List TOp} (h:KR p [] x ops z ops'):z=x∧ops'=ops:=by
 generalize hS:([]:List ST)=S at h;cases h with
 | nil=>exact⟨rfl,rfl⟩
 | snoc h hd hc=>exact absurd hS (by simp)
theorem KI.zero {x:RD} {rk:Int→Nat} {p:Int} (hw:WT x.l rk)(hp:cZ x.l p=true)(hk:(aG x.l p).kind=2):KI x x p (aG x.l p).kids:=by
 obtain⟨P,hP,hPi,hPe⟩:=dM hp;refine⟨hw.nd,fun _=>rfl,fun i=>by split <;> simp [*],hk,fun i=>?_,fun i hi=>?_,by rw [hPe];exact hw.kn P hP⟩
 ·split
  ·rename_i hi;rw [hPe] at hi;obtain⟨c,hc,rfl,hc2⟩:=hw.kids P hP i hi;rw [iK hw.nd hc,hc2,hPi]
  rfl
 rw [hPe] at hi;obtain⟨c,hc,rfl,hc2⟩:=hw.kids P hP i hi;exact aFh hw.nd hc
theorem drop_nil {a b:List Int} (h:gB a b= []):a.filter (fun x=>decide (x∈b))=a:=by
 unfold gB at h;rw [List.map_eq_nil_iff,List.filter_eq_nil_iff] at h;rw [List.filter_eq_self];intro x hx;have:=h x hx;simpa using this
theorem Xs {a b os:List Int} (k:Nat):∃t,(gS a b os (k+1)).2=(gS a b os k).2++t:=by
 show ∃t,(zQ a b os _ _).2=_
 unfold zQ;split
 ·exact⟨[],by simp⟩
 exact⟨_,rfl⟩
theorem Jc {a b os:List Int} {k n:Nat} (h:k≤n):∀s∈(gS a b os k).2,s∈(gS a b os n).2:=by
 induction h with
 | refl=>exact fun s h=>h
 | step h ih=>
  intro s hs;obtain⟨t,ht⟩:=Xs (a:=a) (b:=b) (os:=os) _;rw [ht];exact List.mem_append_left _ (ih s hs)
theorem Kg {a b os:List Int} (hd:gB a b= []):∀k,∀x∈a,x∈(gS a b os k).1
 | 0,x,hx=>by show x∈a.filter _;rw [drop_nil hd];exact hx
 | k+1,x,hx=>by
  have ih:=Kg (os:=os) hd k x hx;show x∈(zQ a b os _ _).1
  unfold zQ;split
  ·exact ih
  refine lG.2 ?_;by_cases e:x=b[b.length - 1 - k]?.getD 0
  ·exact .inl e
  exact .inr (uF ih e)
theorem Cz {a b os:List Int} (hd:gB a b= []):∀k,k≤b.length→∀x∈(gS a b os k).1,x∈a∨∃j,b.length - k≤j∧∃h:j<b.length,b[j]=x
 | 0,_,x,hx=> .inl (by rw [← drop_nil hd];exact hx)
 | k + 1, hk, x, hx => by
  have hw:∀y∈(gS a b os k).1,y∈a∨∃j,b.length - (k+1)≤j∧∃h:j<b.length,b[j]=y:=fun y hy=>by
   rcases Cz hd k (by omega) y hy with h | ⟨j,h1,h2⟩
   ·exact .inl h
   exact .inr ⟨j,by omega,h2⟩
  change x∈(zQ a b os _ _).1 at hx;unfold zQ at hx;split at hx
  ·exact hw x hx
  rcases lG.1 hx with e | h
  ·refine .inr ⟨b.length - 1 - k,by omega,by omega,?_⟩;rw [e,List.getElem?_eq_getElem (by omega)];rfl
  refine hw x ?_;unfold cS An at h;split at h
  ·exact(List.mem_filter.1 h).1
  exact h
theorem aDu {x y z0:RD} {rk:Int→Nat} {p:Int} {b os:List Int} {ops ops':List TOp} (hw:WT x.l rk)(hp:cZ x.l p=true)(hk:(aG x.l p).kind=2)(hb:b.Nodup)(hos:∀i∈os,i∈(aG x.l p).kids∧i∈b) {n:Nat} (hn:n≤b.length)
  (hbad:∀s∈(gS (aG x.l p).kids b os n).2,¬qB x.l (bJ x.l rk) p s) (h:KR p (gS (aG x.l p).kids b os n).2 x ops y ops'):
  ops'=ops++(gS (aG x.l p).kids b os n).2.map (xM p)∧KI x y p (gS (aG x.l p).kids b os n).1∧(RPath z0 ops x→RPath z0 ops' y):=by
 have hd0:gB (aG x.l p).kids b= []:=by
  cases hq:gB (aG x.l p).kids b with
  | nil=>rfl
  | cons s t=>
   refine absurd ?_ (hbad s (Jc (Nat.zero_le n) s (by show s∈gB _ _;rw [hq];exact List.mem_cons_self)));have:s∈gB (aG x.l p).kids b:=by rw [hq];exact List.mem_cons_self
   unfold gB at this;obtain⟨i,_,rfl⟩:=List.mem_map.1 this;exact .inl rfl
 induction n generalizing y ops' with
 | zero=>
  change KR p (gB _ _) x ops y ops' at h;rw [hd0] at h;obtain⟨rfl,rfl⟩:=h.inv0;refine⟨?_,?_,id⟩
  ·show ops'=ops'++(gB _ _).map _;rw [hd0];simp
  show KI y y p ((aG y.l p).kids.filter _)
  rw [drop_nil hd0];exact KI.zero hw hp hk
 | succ k ih =>
  have hi:b.length - 1 - k<b.length:=by omega
  have hsub:∀s∈(gS (aG x.l p).kids b os k).2,¬qB x.l (bJ x.l rk) p s:=fun s hs=>hbad s (Jc (Nat.le_succ k) s hs);change KR p (zQ (aG x.l p).kids b os (b.length - 1 - k) (gS (aG x.l p).kids b os k)).2 x ops y ops' at h;change ∀s∈(zQ (aG x.l p).kids b os (b.length - 1 - k) (gS (aG x.l p).kids b os k)).2,_ at hbad;show ops'=ops++(zQ (aG x.l p).kids b os (b.length - 1 - k) (gS (aG x.l p).kids b os k)).2.map _∧KI x y p (zQ (aG x.l p).kids b os (b.length - 1 - k) (gS (aG x.l p).kids b os k)).1∧_
  by_cases hx:b[b.length - 1 - k]∈os
  ·rw [Mo hi hx] at h ⊢;exact ih (by omega) hsub h
  rw [rJ hi hx] at h hbad ⊢;have inv := uI (a := (aG x.l p).kids) hb hos k (by omega);obtain ⟨q1, -, -⟩ := Nd hb (show k < b.length by omega) inv rfl hi hx;obtain ⟨y0, ops0, c, h1, h2, h3, rfl⟩ := h.inv;obtain ⟨e1, ki, hrp⟩ := ih (by omega) hsub h1;have hbs := hbad _ (List.mem_append_right _ List.mem_cons_self);have hsup := Kg (os := os) hd0 k;have honly := Cz (os := os) hd0 k (by omega);generalize hs : gS (aG x.l p).kids b os k = s at *;generalize hii : b.length - 1 - k = i at *;have key : c = 0 ∧ KI x y p (dE (cS (aG x.l p).kids s.1 b[i]) (mZ b (cS (aG x.l p).kids s.1 b[i]) i) b[i]) := by
   by_cases hka:b[i]∈(aG x.l p).kids
   ·rw [if_pos hka] at h2;have hg:cS (aG x.l p).kids s.1 b[i]=eG s.1 b[i]:=by unfold cS;rw [if_pos hka];rfl
    rw [hg] at h2 q1 ⊢;have hin:=hsup _ hka;have hlt:(eG s.1 b[i]).length<s.1.length:=by
     unfold eG;refine List.length_filter_lt_length_iff_exists.2 ⟨b[i],hin,by simp⟩
    have:=ki.mov (at_:=(mZ b (eG s.1 b[i]) i:Nat)) hp hin ⟨by omega,by omega⟩ (by have:=h2;unfold xM at this;exact this);simpa using this
   rw [if_neg hka] at h2 hbs;have hg:cS (aG x.l p).kids s.1 b[i]=s.1:=by unfold cS;rw [if_neg hka]
   rw [hg] at h2 q1 hbs ⊢;have hnow:b[i]∉s.1:=fun hm=>by
    rcases honly _ hm with hm | ⟨j,j1,j2,j3⟩
    ·exact hka hm
    have:=(List.getElem_inj hb).1 j3;omega
   have hlo:iQ x.l (bJ x.l rk) p b[i]=true:=by
    cases hq:iQ x.l (bJ x.l rk) p b[i] with
    | true=>rfl
    | false=>exact absurd (.inr ⟨rfl,hq⟩) hbs
   unfold iQ at hlo;simp only [Bool.and_eq_true,decide_eq_true_eq,Bool.not_eq_true',ne_eq] at hlo;obtain⟨⟨⟨l1,l2⟩,l3⟩,l4⟩:=hlo;have hnb:p∉bJ x.l rk b[i]:=fun hm=>by
    unfold iM at l4;rw [hp,l1,Bool.true_and,Bool.true_and,List.any_eq_false] at l4;have:=l4 p hm;simp at this
   have:=ki.ins (at_:=(mZ b s.1 i:Nat)) hw.Dec hp l1 l2 l3 hnb hnow ⟨by omega,by omega⟩ (by have:=h2;unfold xM at this;exact this);simpa using this
  obtain⟨rfl,ki'⟩:=key;refine⟨?_,ki',fun hr=>?_⟩
  ·unfold Lg;rw [if_pos rfl,e1];simp [List.map_append]
  unfold Lg;rw [if_pos rfl];exact(hrp hr).snoc h3
end Go.Proofs.YtbgfljpnhhdkoaaGreat
