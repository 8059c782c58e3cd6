import Derived.Test.YtbgfljpnhhdkoaaGreatPaKid
import Derived.Test.YtbgfljpnhhdkoaaGreatWkWv4
set_option linter.all false
set_option maxHeartbeats 1000000
open Go.Proofs.Tryz
namespace Go.Proofs.YtbgfljpnhhdkoaaGreat
open Go Go.Vm
variable {a b now os:List Int}{ops ops':List TOp}{p:Int}{rk:Int->Nat}{s1 s2:ByteArray}{x y z:RD}
theorem aRz {x y:List ND} {rk':Int->Nat} (hx:Dec x rk)(hy:Dec y rk')(hk:∀i,i≠p->(aG y i).kids=(aG x i).kids):∀(n:Nat) (id:Int),rk id<=n->p∉cF x rk id->cF y rk' id=cF x rk id:=by
 intro n;induction n with
 | zero=>
  intro id hid hp;have hne:id≠p:=fun e=>hp (e ▸ nH hx id);rw [jI hx,jI hy,hk id hne,hx.nil (by omega)];rfl
 | succ n ih=>
  intro id hid hp;have hne:id≠p:=fun e=>hp (e ▸ nH hx id);rw [jI hx] at hp;rw [jI hx,jI hy,hk id hne];congr 1;exact lQ fun k hk'=>ih k (by have:=hx id k hk';omega) fun hpk=>hp (lE _ (kQ.2 ⟨k,hk',hpk⟩))
structure KI(x y:RD)(p:Int)(now:List Int):Prop where
 nd:(y.l.map ND.ID).Nodup
 il:∀i,eN y.l i=eN x.l i
 kk:∀i,(aG y.l i).kids=if i=p then now else(aG x.l i).kids
 kd:(aG y.l p).kind=2
 pr:∀i,(aG y.l i).parent=if i∈now then p else(aG x.l i).parent
 isn:∀i∈now,eN x.l i=true
 nn:now.Nodup
theorem Cs {l:List Int} {i:Nat} {x y:Int} :y∈fV l i x↔y=x\/y∈l:=rF
theorem KI.ins {id at_:Int} {c:Int} (h:KI x y p now)(hD:Dec x.l rk)(hp:eN x.l p=true)(hid:eN x.l id=true)(h0:id≠0)(hpar:(aG x.l id).parent<0)(hw:p∉cF x.l rk id)(hn:id∉now)(ha:0<=at_/\at_<=now.length)
  (hd:Doc y ⟨3,p,at_,id,s1,s2⟩ z c):c=0/\KI x z p (fV now at_.toNat id):=by
 obtain⟨b,b2,n,hb, -,hdo⟩:=hd;have he:=hdo.2.2.2.1 rfl;dsimp only at he;obtain⟨rk',hD',rfl⟩:=hb;have hpk:=h.kk p;rw [if_pos rfl] at hpk;have hbel:cF y.l rk' id=cF x.l rk id:=aRz hD hD' (fun i hi=>by rw [h.kk i,aC hi]) (rk id) id (aV _) hw;have hpp:(aG y.l id).parent<0:=by rw [h.pr id,aC hn];exact hpar
 have hwb:oB y.l (cF y.l rk') p id=false:=by
  unfold oB;rw [hbel,Bool.and_eq_false_iff];refine .inr ?_;rw [oX];intro k hk;simp only [eO];rintro rfl;exact hw hk
 have e1:eN y.l p=true:=by rw [h.il];exact hp
 have e2:eN y.l id=true:=by rw [h.il];exact hid
 unfold insX at he;rw [aC (by rw [e1,e2];simp),aC (by simp [h.kd]),aC (by rw [hwb,hpk];rintro(q | q | q | q | q) <;> first | omega | simp at q)] at he;simp only [gN] at he;obtain⟨rfl,rfl⟩:=he;refine⟨rfl,?_⟩;obtain⟨P,hP,hPi,hPe⟩:=fE e1;obtain⟨Q,hQ,hQi,hQe⟩:=fE e2;have hne:p≠id:=by rintro rfl;exact hw (nH hD _)
 rw [hPe,hQe];rw [hPe] at hpk;have hnd1:((fI y.l { P with kids:=fV P.kids at_.toNat id }).map ND.ID).Nodup:=by rw [nN];exact h.nd
 have hQ1:Q∈fI y.l { P with kids:=fV P.kids at_.toNat id } :=by
  unfold fI;refine aX.2 ⟨Q,hQ,?_⟩;rw [aC];show ¬Q.ID=P.ID;rw [hQi,hPi];exact fun e=>hne e.symm
 have hf:∀i,aG (fI (fI y.l { P with kids:=fV P.kids at_.toNat id }) { Q with parent:=p }) i=if i=id then { Q with parent:=p } else if i=p then { P with kids:=fV P.kids at_.toNat id } else aG y.l i:=by
  intro i;rw [qE hnd1 (p:=Q) (p':= { Q with parent:=p }) hQ1 rfl,qE h.nd (p:=P) (p':= { P with kids:=fV P.kids at_.toNat id }) hP rfl,hQi,hPi]
 refine⟨by rw [nN,nN];exact h.nd,fun i=>by rw [yZ,yZ];exact h.il i,fun i=>?_,?_,fun i=>?_,fun i hi=>?_,wG h.nn hn⟩
 .rw [hf];by_cases a:i=id
  .subst a;rw [aI rfl,aC (fun e=>hne e.symm)];have:=h.kk i;rw [aC (fun e=>hne e.symm),hQe] at this;exact this
  rw [aC a];by_cases a2:i=p
  .rw [aI a2,aI a2];show fV P.kids _ _=_;rw [hpk]
  rw [aC a2,aC a2,h.kk i,aC a2]
 .rw [hf,aC hne,aI rfl];show P.kind=2;rw [<- hPe];exact h.kd
 .rw [hf];by_cases a:i=id
  .rw [aI a,aI (Cs.2 (.inl a))]
  rw [aC a];have e3:(i∈fV now at_.toNat id)↔i∈now:=by rw [Cs];simp [a]
  simp only [e3];by_cases a2:i=p
  .rw [aI a2,<- h.pr i,a2,hPe]
  rw [aC a2];exact h.pr i
 rcases Cs.1 hi with rfl | hi
 .exact hid
 exact h.isn i hi
theorem KI.mov {id at_:Int} {c:Int} (h:KI x y p now)(hp:eN x.l p=true)(hn:id∈now)(ha:0<=at_/\at_<now.length) {a3:Int}
  (hd:Doc y ⟨4,id,at_,a3,s1,s2⟩ z c):c=0/\KI x z p (fV (iK now id) at_.toNat id):=by
 obtain⟨b,b2,n,hb, -,hdo⟩:=hd;have he:=hdo.2.2.2.2.1 rfl;dsimp only at he;have hpk:=h.kk p;rw [if_pos rfl] at hpk;have hpar:(aG y.l id).parent=p:=by rw [h.pr id,aI hn]
 have e1:eN y.l p=true:=by rw [h.il];exact hp
 have e2:eN y.l id=true:=by rw [h.il];exact h.isn id hn
 unfold movX at he;rw [hpar,aC (by rw [e2];simp),hpk,aC (by rw [e1];rintro(q | q | q) <;> first | omega | simp at q)] at he;simp only [gN] at he;obtain⟨rfl,rfl⟩:=he;refine⟨rfl,?_⟩;obtain⟨P,hP,hPi,hPe⟩:=fE e1;rw [hPe];rw [hPe] at hpk;have hf:∀i,aG (fI y.l { P with kids:=fV (iK now id) at_.toNat id }) i=if i=p then { P with kids:=fV (iK now id) at_.toNat id } else aG y.l i:=by
  intro i;rw [qE h.nd (p:=P) (p':= { P with kids:=fV (iK now id) at_.toNat id }) hP rfl,hPi]
 have hm:∀i,i∈fV (iK now id) at_.toNat id↔i∈now:=by
  intro i;rw [Cs];unfold iK;rw [cY];constructor
  .rintro(rfl | q)
   .exact hn
   exact q.1
  intro q;by_cases e:i=id
  .exact .inl e
  exact .inr ⟨q,by simp [e]⟩
 refine⟨by rw [nN];exact h.nd,fun i=>by rw [yZ];exact h.il i,fun i=>?_,?_,fun i=>?_,fun i hi=>h.isn i ((hm i).1 hi),wG (Bo h.nn) (by unfold iK;simp)⟩
 .rw [hf];by_cases a2:i=p
  .rw [aI a2,aI a2]
  rw [aC a2,aC a2,h.kk i,aC a2]
 .rw [hf,aI rfl];show P.kind=2;rw [<- hPe];exact h.kd
 rw [hf];simp only [hm];by_cases a2:i=p
 .rw [aI a2,<- h.pr i,a2,hPe]
 rw [aC a2];exact h.pr i
theorem KR.inv {ss:List ST} {s:ST} (h:KR p (ss++ [s]) x ops z ops'):∃y ops0 c,KR p ss x ops y ops0/\Doc y (Rx p s) z c/\(∀τ,Ct prog 161 [gB y,kF (Rx p s)] τ (fun r τ'=>r= .tup [gB z,D.int c]/\τ'=τ))/\ops'=Nv ops0 c (Rx p s):=by
 generalize hS:ss++ [s]=S at h;cases h with
 | nil=>exact absurd hS (by simp)
 | snoc h hd hc=>
  obtain⟨e1,e2⟩:=List.append_inj' hS rfl;simp only [List.cons.injEq,qJ] at e2;subst e1;subst e2;exact⟨_,_,_,h,hd,hc,rfl⟩
theorem KR.inv0 (h:KR p [] x ops z ops'):z=x/\ops'=ops:=by
 generalize hS:([]:List ST)=S at h;cases h with
 | nil=>exact⟨rfl,rfl⟩
 | snoc h hd hc=>exact absurd hS (by simp)
theorem KI.zero (hw:WT x.l rk)(hp:eN x.l p=true)(hk:(aG x.l p).kind=2):KI x x p (aG x.l p).kids:=by
 obtain⟨P,hP,hPi,hPe⟩:=fE hp;refine⟨hw.nd,fun _=>rfl,fun i=>by split <;> simp [*],hk,fun i=>?_,fun i hi=>?_,by rw [hPe];exact hw.kn P hP⟩
 .split
  .rename_i hi;rw [hPe] at hi;obtain⟨c,hc,rfl,hc2⟩:=hw.kids P hP i hi;rw [nO hw.nd hc,hc2,hPi]
  rfl
 rw [hPe] at hi;obtain⟨c,hc,rfl,hc2⟩:=hw.kids P hP i hi;exact aOv hw.nd hc
theorem drop_nil (h:lW a b= []):a.filter (fun x=>decide (x∈b))=a:=by
 unfold lW at h;rw [List.map_eq_nil_iff,mQ] at h;rw [lT];intro x hx;have:=h x hx;simpa using this
theorem aLb (k:Nat):∃t,(oH a b os (k+1)).2=(oH a b os k).2++t:=by
 show ∃t,(Nw a b os _ _).2=_
 unfold Nw;split
 .exact⟨[],by simp⟩
 exact⟨_,rfl⟩
theorem Ws {k n:Nat} (h:k<=n):∀s∈(oH a b os k).2,s∈(oH a b os n).2:=by
 induction h with
 | refl=>exact fun s h=>h
 | step h ih=>
  intro s hs;obtain⟨t,ht⟩:=aLb (a:=a) (b:=b) (os:=os) _;rw [ht];exact iS _ (ih s hs)
theorem Vb {a b os:List Int} (hd:lW a b= []):∀k,∀x∈a,x∈(oH a b os k).1
 | 0,x,hx=>by show x∈a.filter _;rw [drop_nil hd];exact hx
 | k+1,x,hx=>by
  have ih:=Vb (os:=os) hd k x hx;show x∈(Nw a b os _ _).1
  unfold Nw;split
  .exact ih
  refine rF.2 ?_;by_cases e:x=b[b.length - 1 - k]?.getD 0
  .exact .inl e
  exact .inr (Dc ih e)
theorem Ow (hd:lW a b= []):∀k,k<=b.length->∀x∈(oH a b os k).1,x∈a\/∃j,b.length - k<=j/\∃h:j<b.length,b[j]=x
 | 0,_,x,hx=> .inl (by rw [<- drop_nil hd];exact hx)
 | k + 1, hk, x, hx => by
  have hw:∀y∈(oH a b os k).1,y∈a\/∃j,b.length - (k+1)<=j/\∃h:j<b.length,b[j]=y:=fun y hy=>by
   rcases Ow hd k (by omega) y hy with h | ⟨j,h1,h2⟩
   .exact .inl h
   exact .inr ⟨j,by omega,h2⟩
  change x∈(Nw a b os _ _).1 at hx;unfold Nw at hx;split at hx
  .exact hw x hx
  rcases rF.1 hx with e | h
  .refine .inr ⟨b.length - 1 - k,by omega,by omega,?_⟩;rw [e,aQ (by omega)];rfl
  refine hw x ?_;unfold gA Mi at h;split at h
  .exact(cY.1 h).1
  exact h
theorem aJ4 {z0:RD} (hw:WT x.l rk)(hp:eN x.l p=true)(hk:(aG x.l p).kind=2)(hb:b.Nodup)(hos:∀i∈os,i∈(aG x.l p).kids/\i∈b) {n:Nat} (hn:n<=b.length)
  (hbad:∀s∈(oH (aG x.l p).kids b os n).2,¬De x.l (cF x.l rk) p s) (h:KR p (oH (aG x.l p).kids b os n).2 x ops y ops'):
  ops'=ops++(oH (aG x.l p).kids b os n).2.map (Rx p)/\KI x y p (oH (aG x.l p).kids b os n).1/\(RPath z0 ops x->RPath z0 ops' y):=by
 have hd0:lW (aG x.l p).kids b= []:=by
  cases hq:lW (aG x.l p).kids b with
  | nil=>rfl
  | cons s t=>
   refine absurd ?_ (hbad s (Ws (gD n) s (by show s∈lW _ _;rw [hq];exact kO)));have:s∈lW (aG x.l p).kids b:=by rw [hq];exact kO
   unfold lW at this;obtain⟨i,_,rfl⟩:=aX.1 this;exact .inl rfl
 induction n generalizing y ops' with
 | zero=>
  change KR p (lW _ _) x ops y ops' at h;rw [hd0] at h;obtain⟨rfl,rfl⟩:=h.inv0;refine⟨?_,?_,id⟩
  .show ops'=ops'++(lW _ _).map _;rw [hd0];simp
  show KI y y p ((aG y.l p).kids.filter _)
  rw [drop_nil hd0];exact KI.zero hw hp hk
 | succ k ih =>
  have hi:b.length - 1 - k<b.length:=by omega
  have hsub:∀s∈(oH (aG x.l p).kids b os k).2,¬De x.l (cF x.l rk) p s:=fun s hs=>hbad s (Ws (Nat.le_succ k) s hs);change KR p (Nw (aG x.l p).kids b os (b.length - 1 - k) (oH (aG x.l p).kids b os k)).2 x ops y ops' at h;change ∀s∈(Nw (aG x.l p).kids b os (b.length - 1 - k) (oH (aG x.l p).kids b os k)).2,_ at hbad;show ops'=ops++(Nw (aG x.l p).kids b os (b.length - 1 - k) (oH (aG x.l p).kids b os k)).2.map _/\KI x y p (Nw (aG x.l p).kids b os (b.length - 1 - k) (oH (aG x.l p).kids b os k)).1/\_
  by_cases hx:b[b.length - 1 - k]∈os
  .rw [aKv hi hx] at h |-;exact ih (by omega) hsub h
  rw [Cp hi hx] at h hbad |-;have inv := Lu (a := (aG x.l p).kids) hb hos k (by omega);obtain ⟨q1, -, -⟩ := aN2 hb (show k < b.length by omega) inv rfl hi hx;obtain ⟨y0, ops0, c, h1, h2, h3, rfl⟩ := h.inv;obtain ⟨e1, ki, hrp⟩ := ih (by omega) hsub h1;have hbs := hbad _ (uK _ kO);have hsup := Vb (os := os) hd0 k;have honly := Ow (os := os) hd0 k (by omega);generalize hs : oH (aG x.l p).kids b os k = s at *;generalize hii : b.length - 1 - k = i at *;have key : c = 0 /\ KI x y p (fV (gA (aG x.l p).kids s.1 b[i]) (xF b (gA (aG x.l p).kids s.1 b[i]) i) b[i]) := by
   by_cases hka:b[i]∈(aG x.l p).kids
   .rw [aI hka] at h2;have hg:gA (aG x.l p).kids s.1 b[i]=iK s.1 b[i]:=by unfold gA;rw [aI hka];rfl
    rw [hg] at h2 q1 |-;have hin:=hsup _ hka;have hlt:(iK s.1 b[i]).length<s.1.length:=by
     unfold iK;refine List.length_filter_lt_length_iff_exists.2 ⟨b[i],hin,by simp⟩
    have:=ki.mov (at_:=(xF b (iK s.1 b[i]) i:Nat)) hp hin ⟨by omega,by omega⟩ (by have:=h2;unfold Rx at this;exact this);simpa using this
   rw [aC hka] at h2 hbs;have hg:gA (aG x.l p).kids s.1 b[i]=s.1:=by unfold gA;rw [aC hka]
   rw [hg] at h2 q1 hbs |-;have hnow:b[i]∉s.1:=fun hm=>by
    rcases honly _ hm with hm | ⟨j,j1,j2,j3⟩
    .exact hka hm
    have:=(Ff hb).1 j3;omega
   have hlo:oN x.l (cF x.l rk) p b[i]=true:=by
    cases hq:oN x.l (cF x.l rk) p b[i] with
    | true=>rfl
    | false=>exact absurd (.inr ⟨rfl,hq⟩) hbs
   unfold oN at hlo;simp only [fQ,eO,lM,ne_eq] at hlo;obtain⟨⟨⟨l1,l2⟩,l3⟩,l4⟩:=hlo;have hnb:p∉cF x.l rk b[i]:=fun hm=>by
    unfold oB at l4;rw [hp,l1,lP,lP,oX] at l4;have:=l4 p hm;simp at this
   have:=ki.ins (at_:=(xF b s.1 i:Nat)) hw.Dec hp l1 l2 l3 hnb hnow ⟨by omega,by omega⟩ (by have:=h2;unfold Rx at this;exact this);simpa using this
  obtain⟨rfl,ki'⟩:=key;refine⟨?_,ki',fun hr=>?_⟩
  .unfold Nv;rw [aI rfl,e1];simp [dK]
  unfold Nv;rw [aI rfl];exact(hrp hr).snoc h3
end Go.Proofs.YtbgfljpnhhdkoaaGreat
namespace Go.Proofs.YtbgfljpnhhdkoaaGreat.Lis
end Go.Proofs.YtbgfljpnhhdkoaaGreat.Lis
namespace Go.Proofs.YtbgfljpnhhdkoaaGreat
open Go Go.Vm
end Go.Proofs.YtbgfljpnhhdkoaaGreat
