import Derived.Test.YtbgfljpnhhdkoaaGreatPaKid
import Derived.Test.YtbgfljpnhhdkoaaGreatWkWv4
set_option maxHeartbeats 8000000
set_option linter.all false
set_option maxRecDepth 20000
namespace Go.Proofs.YtbgfljpnhhdkoaaGreat
open Go Go.Vm
variable {now:List Int}{p:Int}{rk:Int->Nat}{s1 s2:ByteArray}{x:RD}
theorem aPz {x y:List ND} {rk':Int->Nat} (hx:Dec x rk)(hy:Dec y rk')(hk:∀i,i≠p->(aJ y i).kids=(aJ x i).kids):∀(n:Nat) (id:Int),rk id<=n->p∉dU x rk id->dU y rk' id=dU x rk id:=by
 intro n;induction n with
 | zero=>
  intro id hid hp;have hne:id≠p:=fun e=>hp (e ▸ mY hx id);rw [jZ hx,jZ hy,hk id hne,hx.nil (by omega)];rfl
 | succ n ih=>
  intro id hid hp;have hne:id≠p:=fun e=>hp (e ▸ mY hx id);rw [jZ hx] at hp;rw [jZ hx,jZ hy,hk id hne];congr 1;exact mZ fun k hk'=>ih k (by have:=hx id k hk';omega) fun hpk=>hp (eV _ (mF.2 ⟨k,hk',hpk⟩))
structure KI(x y:RD)(p:Int)(now:List Int):Prop where
 nd:(y.l.map ND.ID).Nodup
 il:∀i,fP y.l i=fP x.l i
 kk:∀i,(aJ y.l i).kids=if i=p then now else(aJ x.l i).kids
 kd:(aJ y.l p).kind=2
 pr:∀i,(aJ y.l i).parent=if i∈now then p else(aJ x.l i).parent
 isn:∀i∈now,fP x.l i=true
 nn:now.Nodup
theorem Ci {l:List Int} {i:Nat} {x y:Int} :y∈fQ l i x↔y=x\/y∈l:=xV
theorem KI.ins {y z:RD} {id at_:Int} {c:Int} (h:KI x y p now)(hD:Dec x.l rk)(hp:fP x.l p=true)(hid:fP x.l id=true)(h0:id≠0)(hpar:(aJ x.l id).parent<0)(hw:p∉dU x.l rk id)(hn:id∉now)(ha:0<=at_/\at_<=now.length)
  (hd:Doc y ⟨3,p,at_,id,s1,s2⟩ z c):c=0/\KI x z p (fQ now at_.toNat id):=by
 obtain⟨b,b2,n,hb, -,hdo⟩:=hd;have he:=hdo.2.2.2.1 rfl;dsimp only at he;obtain⟨rk',hD',rfl⟩:=hb;have hpk:=h.kk p;rw [if_pos rfl] at hpk;have hbel:dU y.l rk' id=dU x.l rk id:=aPz hD hD' (fun i hi=>by rw [h.kk i,aD hi]) (rk id) id (aW _) hw;have hpp:(aJ y.l id).parent<0:=by rw [h.pr id,aD hn];exact hpar
 have hwb:oH y.l (dU y.l rk') p id=false:=by
  unfold oH;rw [hbel,Bool.and_eq_false_iff];refine .inr ?_;rw [qI];intro k hk;simp only [fN];rintro rfl;exact hw hk
 have e1:fP y.l p=true:=by rw [h.il];exact hp
 have e2:fP y.l id=true:=by rw [h.il];exact hid
 unfold insX at he;rw [aD (by rw [e1,e2];simp),aD (by simp [h.kd]),aD (by rw [hwb,hpk];rintro(q | q | q | q | q) <;> first | omega | simp at q)] at he;simp only [gI] at he;obtain⟨rfl,rfl⟩:=he;refine⟨rfl,?_⟩;obtain⟨P,hP,hPi,hPe⟩:=eX e1;obtain⟨Q,hQ,hQi,hQe⟩:=eX e2;have hne:p≠id:=by rintro rfl;exact hw (mY hD _)
 rw [hPe,hQe];rw [hPe] at hpk;have hnd1:((dK y.l { P with kids:=fQ P.kids at_.toNat id }).map ND.ID).Nodup:=by rw [nC];exact h.nd
 have hQ1:Q∈dK y.l { P with kids:=fQ P.kids at_.toNat id } :=by
  unfold dK;refine aV.2 ⟨Q,hQ,?_⟩;rw [aD];show ¬Q.ID=P.ID;rw [hQi,hPi];exact fun e=>hne e.symm
 have hf:∀i,aJ (dK (dK y.l { P with kids:=fQ P.kids at_.toNat id }) { Q with parent:=p }) i=if i=id then { Q with parent:=p } else if i=p then { P with kids:=fQ P.kids at_.toNat id } else aJ y.l i:=by
  intro i;rw [sL hnd1 (p:=Q) (p':= { Q with parent:=p }) hQ1 rfl,sL h.nd (p:=P) (p':= { P with kids:=fQ P.kids at_.toNat id }) hP rfl,hQi,hPi]
 refine⟨by rw [nC,nC];exact h.nd,fun i=>by rw [Is,Is];exact h.il i,fun i=>?_,?_,fun i=>?_,fun i hi=>?_,Bv h.nn hn⟩
 .rw [hf];by_cases a:i=id
  .subst a;rw [aK rfl,aD (fun e=>hne e.symm)];have:=h.kk i;rw [aD (fun e=>hne e.symm),hQe] at this;exact this
  rw [aD a];by_cases a2:i=p
  .rw [aK a2,aK a2];show fQ P.kids _ _=_;rw [hpk]
  rw [aD a2,aD a2,h.kk i,aD a2]
 .rw [hf,aD hne,aK rfl];show P.kind=2;rw [<- hPe];exact h.kd
 .rw [hf];by_cases a:i=id
  .rw [aK a,aK (Ci.2 (.inl a))]
  rw [aD a];have e3:(i∈fQ now at_.toNat id)↔i∈now:=by rw [Ci];simp [a]
  simp only [e3];by_cases a2:i=p
  .rw [aK a2,<- h.pr i,a2,hPe]
  rw [aD a2];exact h.pr i
 rcases Ci.1 hi with rfl | hi
 .exact hid
 exact h.isn i hi
theorem KI.mov {y z:RD} {id at_:Int} {c:Int} (h:KI x y p now)(hp:fP x.l p=true)(hn:id∈now)(ha:0<=at_/\at_<now.length) {a3:Int}
  (hd:Doc y ⟨4,id,at_,a3,s1,s2⟩ z c):c=0/\KI x z p (fQ (kY now id) at_.toNat id):=by
 obtain⟨b,b2,n,hb, -,hdo⟩:=hd;have he:=hdo.2.2.2.2.1 rfl;dsimp only at he;have hpk:=h.kk p;rw [if_pos rfl] at hpk;have hpar:(aJ y.l id).parent=p:=by rw [h.pr id,aK hn]
 have e1:fP y.l p=true:=by rw [h.il];exact hp
 have e2:fP y.l id=true:=by rw [h.il];exact h.isn id hn
 unfold movX at he;rw [hpar,aD (by rw [e2];simp),hpk,aD (by rw [e1];rintro(q | q | q) <;> first | omega | simp at q)] at he;simp only [gI] at he;obtain⟨rfl,rfl⟩:=he;refine⟨rfl,?_⟩;obtain⟨P,hP,hPi,hPe⟩:=eX e1;rw [hPe];rw [hPe] at hpk;have hf:∀i,aJ (dK y.l { P with kids:=fQ (kY now id) at_.toNat id }) i=if i=p then { P with kids:=fQ (kY now id) at_.toNat id } else aJ y.l i:=by
  intro i;rw [sL h.nd (p:=P) (p':= { P with kids:=fQ (kY now id) at_.toNat id }) hP rfl,hPi]
 have hm:∀i,i∈fQ (kY now id) at_.toNat id↔i∈now:=by
  intro i;rw [Ci];unfold kY;rw [cS];constructor
  .rintro(rfl | q)
   .exact hn
   exact q.1
  intro q;by_cases e:i=id
  .exact .inl e
  exact .inr ⟨q,by simp [e]⟩
 refine⟨by rw [nC];exact h.nd,fun i=>by rw [Is];exact h.il i,fun i=>?_,?_,fun i=>?_,fun i hi=>h.isn i ((hm i).1 hi),Bv (Mb h.nn) (by unfold kY;simp)⟩
 .rw [hf];by_cases a2:i=p
  .rw [aK a2,aK a2]
  rw [aD a2,aD a2,h.kk i,aD a2]
 .rw [hf,aK rfl];show P.kind=2;rw [<- hPe];exact h.kd
 rw [hf];simp only [hm];by_cases a2:i=p
 .rw [aK a2,<- h.pr i,a2,hPe]
 rw [aD a2];exact h.pr i
theorem KI.zero (hw:WT x.l rk)(hp:fP x.l p=true)(hk:(aJ x.l p).kind=2):KI x x p (aJ x.l p).kids:=by
 obtain⟨P,hP,hPi,hPe⟩:=eX hp;refine⟨hw.nd,fun _=>rfl,fun i=>by split <;> simp [*],hk,fun i=>?_,fun i hi=>?_,by rw [hPe];exact hw.kn P hP⟩
 .split
  .rename_i hi;rw [hPe] at hi;obtain⟨c,hc,rfl,hc2⟩:=hw.kids P hP i hi;rw [pH hw.nd hc,hc2,hPi]
  rfl
 rw [hPe] at hi;obtain⟨c,hc,rfl,hc2⟩:=hw.kids P hP i hi;exact aDc hw.nd hc
theorem drop_nil {a b:List Int} (h:aR8 a b= []):a.filter (fun x=>decide (x∈b))=a:=by
 unfold aR8 at h;rw [List.map_eq_nil_iff,sR] at h;rw [nK];intro x hx;have:=h x hx;simpa using this
end Go.Proofs.YtbgfljpnhhdkoaaGreat
namespace Go.Proofs.YtbgfljpnhhdkoaaGreat.Lis
end Go.Proofs.YtbgfljpnhhdkoaaGreat.Lis
namespace Go.Proofs.YtbgfljpnhhdkoaaGreat
open Go Go.Vm
end Go.Proofs.YtbgfljpnhhdkoaaGreat
