import Derived.Test.YtbgfljpnhhdkoaaGreatPaKid
import Derived.Test.YtbgfljpnhhdkoaaGreatWkWv4
set_option linter.all false
set_option maxHeartbeats 8000000
set_option maxRecDepth 20000
namespace Go.Proofs.YtbgfljpnhhdkoaaGreat
open Go Go.Vm
variable {now:List Int}{p:Int}{rk:Int->Nat}{s1 s2:ByteArray}{x:RD}
theorem aPw {x y:List ND} {rk':Int->Nat} (hx:Dec x rk)(hy:Dec y rk')(hk:∀i,i≠p->(aL y i).kids=(aL x i).kids):∀(n:Nat) (id:Int),rk id<=n->p∉dW x rk id->dW y rk' id=dW x rk id:=by
 intro n;induction n with
 | zero=>
  intro id hid hp;have hne:id≠p:=fun e=>hp (e ▸ nE hx id);rw [jZ hx,jZ hy,hk id hne,hx.nil (by omega)];rfl
 | succ n ih=>
  intro id hid hp;have hne:id≠p:=fun e=>hp (e ▸ nE hx id);rw [jZ hx] at hp;rw [jZ hx,jZ hy,hk id hne];congr 1;exact nH fun k hk'=>ih k (by have:=hx id k hk';omega) fun hpk=>hp (gL _ (mO.2 ⟨k,hk',hpk⟩))
structure KI(x y:RD)(p:Int)(now:List Int):Prop where
 nd:(y.l.map ND.ID).Nodup
 il:∀i,fO y.l i=fO x.l i
 kk:∀i,(aL y.l i).kids=if i=p then now else(aL x.l i).kids
 kd:(aL y.l p).kind=2
 pr:∀i,(aL y.l i).parent=if i∈now then p else(aL x.l i).parent
 isn:∀i∈now,fO x.l i=true
 nn:now.Nodup
theorem Ed {l:List Int} {i:Nat} {x y:Int} :y∈fP l i x↔y=x\/y∈l:=xK
theorem KI.ins {y z:RD} {id at_:Int} {c:Int} (h:KI x y p now)(hD:Dec x.l rk)(hp:fO x.l p=true)(hid:fO x.l id=true)(h0:id≠0)(hpar:(aL x.l id).parent<0)(hw:p∉dW x.l rk id)(hn:id∉now)(ha:0<=at_/\at_<=now.length)
  (hd:Doc y ⟨3,p,at_,id,s1,s2⟩ z c):c=0/\KI x z p (fP now at_.toNat id):=by
 obtain⟨b,b2,n,hb, -,hdo⟩:=hd;have he:=hdo.2.2.2.1 rfl;dsimp only at he;obtain⟨rk',hD',rfl⟩:=hb;have hpk:=h.kk p;rw [if_pos rfl] at hpk;have hbel:dW y.l rk' id=dW x.l rk id:=aPw hD hD' (fun i hi=>by rw [h.kk i,aA hi]) (rk id) id (aY _) hw;have hpp:(aL y.l id).parent<0:=by rw [h.pr id,aA hn];exact hpar
 have hwb:oJ y.l (dW y.l rk') p id=false:=by
  unfold oJ;rw [hbel,Bool.and_eq_false_iff];refine .inr ?_;rw [nQ];intro k hk;simp only [fF];rintro rfl;exact hw hk
 have e1:fO y.l p=true:=by rw [h.il];exact hp
 have e2:fO y.l id=true:=by rw [h.il];exact hid
 unfold insX at he;rw [aA (by rw [e1,e2];simp),aA (by simp [h.kd]),aA (by rw [hwb,hpk];rintro(q | q | q | q | q) <;> first | omega | simp at q)] at he;simp only [gJ] at he;obtain⟨rfl,rfl⟩:=he;refine⟨rfl,?_⟩;obtain⟨P,hP,hPi,hPe⟩:=eV e1;obtain⟨Q,hQ,hQi,hQe⟩:=eV e2;have hne:p≠id:=by rintro rfl;exact hw (nE hD _)
 rw [hPe,hQe];rw [hPe] at hpk;have hnd1:((dJ y.l { P with kids:=fP P.kids at_.toNat id }).map ND.ID).Nodup:=by rw [nI];exact h.nd
 have hQ1:Q∈dJ y.l { P with kids:=fP P.kids at_.toNat id } :=by
  unfold dJ;refine aX.2 ⟨Q,hQ,?_⟩;rw [aA];show ¬Q.ID=P.ID;rw [hQi,hPi];exact fun e=>hne e.symm
 have hf:∀i,aL (dJ (dJ y.l { P with kids:=fP P.kids at_.toNat id }) { Q with parent:=p }) i=if i=id then { Q with parent:=p } else if i=p then { P with kids:=fP P.kids at_.toNat id } else aL y.l i:=by
  intro i;rw [qL hnd1 (p:=Q) (p':= { Q with parent:=p }) hQ1 rfl,qL h.nd (p:=P) (p':= { P with kids:=fP P.kids at_.toNat id }) hP rfl,hQi,hPi]
 refine⟨by rw [nI,nI];exact h.nd,fun i=>by rw [Dx,Dx];exact h.il i,fun i=>?_,?_,fun i=>?_,fun i hi=>?_,Cd h.nn hn⟩
 .rw [hf];by_cases a:i=id
  .subst a;rw [aI rfl,aA (fun e=>hne e.symm)];have:=h.kk i;rw [aA (fun e=>hne e.symm),hQe] at this;exact this
  rw [aA a];by_cases a2:i=p
  .rw [aI a2,aI a2];show fP P.kids _ _=_;rw [hpk]
  rw [aA a2,aA a2,h.kk i,aA a2]
 .rw [hf,aA hne,aI rfl];show P.kind=2;rw [<- hPe];exact h.kd
 .rw [hf];by_cases a:i=id
  .rw [aI a,aI (Ed.2 (.inl a))]
  rw [aA a];have e3:(i∈fP now at_.toNat id)↔i∈now:=by rw [Ed];simp [a]
  simp only [e3];by_cases a2:i=p
  .rw [aI a2,<- h.pr i,a2,hPe]
  rw [aA a2];exact h.pr i
 rcases Ed.1 hi with rfl | hi
 .exact hid
 exact h.isn i hi
theorem KI.mov {y z:RD} {id at_:Int} {c:Int} (h:KI x y p now)(hp:fO x.l p=true)(hn:id∈now)(ha:0<=at_/\at_<now.length) {a3:Int}
  (hd:Doc y ⟨4,id,at_,a3,s1,s2⟩ z c):c=0/\KI x z p (fP (kZ now id) at_.toNat id):=by
 obtain⟨b,b2,n,hb, -,hdo⟩:=hd;have he:=hdo.2.2.2.2.1 rfl;dsimp only at he;have hpk:=h.kk p;rw [if_pos rfl] at hpk;have hpar:(aL y.l id).parent=p:=by rw [h.pr id,aI hn]
 have e1:fO y.l p=true:=by rw [h.il];exact hp
 have e2:fO y.l id=true:=by rw [h.il];exact h.isn id hn
 unfold movX at he;rw [hpar,aA (by rw [e2];simp),hpk,aA (by rw [e1];rintro(q | q | q) <;> first | omega | simp at q)] at he;simp only [gJ] at he;obtain⟨rfl,rfl⟩:=he;refine⟨rfl,?_⟩;obtain⟨P,hP,hPi,hPe⟩:=eV e1;rw [hPe];rw [hPe] at hpk;have hf:∀i,aL (dJ y.l { P with kids:=fP (kZ now id) at_.toNat id }) i=if i=p then { P with kids:=fP (kZ now id) at_.toNat id } else aL y.l i:=by
  intro i;rw [qL h.nd (p:=P) (p':= { P with kids:=fP (kZ now id) at_.toNat id }) hP rfl,hPi]
 have hm:∀i,i∈fP (kZ now id) at_.toNat id↔i∈now:=by
  intro i;rw [Ed];unfold kZ;rw [dP];constructor
  .rintro(rfl | q)
   .exact hn
   exact q.1
  intro q;by_cases e:i=id
  .exact .inl e
  exact .inr ⟨q,by simp [e]⟩
 refine⟨by rw [nI];exact h.nd,fun i=>by rw [Dx];exact h.il i,fun i=>?_,?_,fun i=>?_,fun i hi=>h.isn i ((hm i).1 hi),Cd (Kg h.nn) (by unfold kZ;simp)⟩
 .rw [hf];by_cases a2:i=p
  .rw [aI a2,aI a2]
  rw [aA a2,aA a2,h.kk i,aA a2]
 .rw [hf,aI rfl];show P.kind=2;rw [<- hPe];exact h.kd
 rw [hf];simp only [hm];by_cases a2:i=p
 .rw [aI a2,<- h.pr i,a2,hPe]
 rw [aA a2];exact h.pr i
theorem KI.zero (hw:WT x.l rk)(hp:fO x.l p=true)(hk:(aL x.l p).kind=2):KI x x p (aL x.l p).kids:=by
 obtain⟨P,hP,hPi,hPe⟩:=eV hp;refine⟨hw.nd,fun _=>rfl,fun i=>by split <;> simp [*],hk,fun i=>?_,fun i hi=>?_,by rw [hPe];exact hw.kn P hP⟩
 .split
  .rename_i hi;rw [hPe] at hi;obtain⟨c,hc,rfl,hc2⟩:=hw.kids P hP i hi;rw [pJ hw.nd hc,hc2,hPi]
  rfl
 rw [hPe] at hi;obtain⟨c,hc,rfl,hc2⟩:=hw.kids P hP i hi;exact aBe hw.nd hc
theorem drop_nil {a b:List Int} (h:aSg a b= []):a.filter (fun x=>decide (x∈b))=a:=by
 unfold aSg at h;rw [List.map_eq_nil_iff,sP] at h;rw [oB];intro x hx;have:=h x hx;simpa using this
end Go.Proofs.YtbgfljpnhhdkoaaGreat
namespace Go.Proofs.YtbgfljpnhhdkoaaGreat.Lis
end Go.Proofs.YtbgfljpnhhdkoaaGreat.Lis
namespace Go.Proofs.YtbgfljpnhhdkoaaGreat
open Go Go.Vm
end Go.Proofs.YtbgfljpnhhdkoaaGreat
