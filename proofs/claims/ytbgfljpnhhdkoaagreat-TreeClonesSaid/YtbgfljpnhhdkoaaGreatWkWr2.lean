import Derived.Test.YtbgfljpnhhdkoaaGreatPaKid
import Derived.Test.YtbgfljpnhhdkoaaGreatWkWv4
set_option linter.all false
set_option maxHeartbeats 8000000
set_option maxRecDepth 20000
namespace Go.Proofs.YtbgfljpnhhdkoaaGreat
open Go Go.Vm
variable {now:List Int}{p:Int}{rk:Int->Nat}{s1 s2:ByteArray}{x:RD}
theorem aN0 {x y:List ND} {rk':Int->Nat} (hx:Dec x rk)(hy:Dec y rk')(hk:∀i,i≠p->(aI y i).kids=(aI x i).kids):∀(n:Nat) (id:Int),rk id<=n->p∉dS x rk id->dS y rk' id=dS x rk id:=by
 intro n;induction n with
 | zero=>
  intro id hid hp;have hne:id≠p:=fun e=>hp (e ▸ mY hx id);rw [jU hx,jU hy,hk id hne,hx.nil (by omega)];rfl
 | succ n ih=>
  intro id hid hp;have hne:id≠p:=fun e=>hp (e ▸ mY hx id);rw [jU hx] at hp;rw [jU hx,jU hy,hk id hne];congr 1;exact mQ fun k hk'=>ih k (by have:=hx id k hk';omega) fun hpk=>hp (fW _ (lU.2 ⟨k,hk',hpk⟩))
structure KI(x y:RD)(p:Int)(now:List Int):Prop where
 nd:(y.l.map ND.ID).Nodup
 il:∀i,fO y.l i=fO x.l i
 kk:∀i,(aI y.l i).kids=if i=p then now else(aI x.l i).kids
 kd:(aI y.l p).kind=2
 pr:∀i,(aI y.l i).parent=if i∈now then p else(aI x.l i).parent
 isn:∀i∈now,fO x.l i=true
 nn:now.Nodup
theorem Ci {l:List Int} {i:Nat} {x y:Int} :y∈fL l i x↔y=x\/y∈l:=wU
theorem KI.ins {y z:RD} {id at_:Int} {c:Int} (h:KI x y p now)(hD:Dec x.l rk)(hp:fO x.l p=true)(hid:fO x.l id=true)(h0:id≠0)(hpar:(aI x.l id).parent<0)(hw:p∉dS x.l rk id)(hn:id∉now)(ha:0<=at_/\at_<=now.length)
  (hd:Doc y ⟨3,p,at_,id,s1,s2⟩ z c):c=0/\KI x z p (fL now at_.toNat id):=by
 obtain⟨b,b2,n,hb, -,hdo⟩:=hd;have he:=hdo.2.2.2.1 rfl;dsimp only at he;obtain⟨rk',hD',rfl⟩:=hb;have hpk:=h.kk p;rw [if_pos rfl] at hpk;have hbel:dS y.l rk' id=dS x.l rk id:=aN0 hD hD' (fun i hi=>by rw [h.kk i,aD hi]) (rk id) id (aV _) hw;have hpp:(aI y.l id).parent<0:=by rw [h.pr id,aD hn];exact hpar
 have hwb:nW y.l (dS y.l rk') p id=false:=by
  unfold nW;rw [hbel,Bool.and_eq_false_iff];refine .inr ?_;rw [qB];intro k hk;simp only [fM];rintro rfl;exact hw hk
 have e1:fO y.l p=true:=by rw [h.il];exact hp
 have e2:fO y.l id=true:=by rw [h.il];exact hid
 unfold insX at he;rw [aD (by rw [e1,e2];simp),aD (by simp [h.kd]),aD (by rw [hwb,hpk];rintro(q | q | q | q | q) <;> first | omega | simp at q)] at he;simp only [gF] at he;obtain⟨rfl,rfl⟩:=he;refine⟨rfl,?_⟩;obtain⟨P,hP,hPi,hPe⟩:=eV e1;obtain⟨Q,hQ,hQi,hQe⟩:=eV e2;have hne:p≠id:=by rintro rfl;exact hw (mY hD _)
 rw [hPe,hQe];rw [hPe] at hpk;have hnd1:((dJ y.l { P with kids:=fL P.kids at_.toNat id }).map ND.ID).Nodup:=by rw [mX];exact h.nd
 have hQ1:Q∈dJ y.l { P with kids:=fL P.kids at_.toNat id } :=by
  unfold dJ;refine aX.2 ⟨Q,hQ,?_⟩;rw [aD];show ¬Q.ID=P.ID;rw [hQi,hPi];exact fun e=>hne e.symm
 have hf:∀i,aI (dJ (dJ y.l { P with kids:=fL P.kids at_.toNat id }) { Q with parent:=p }) i=if i=id then { Q with parent:=p } else if i=p then { P with kids:=fL P.kids at_.toNat id } else aI y.l i:=by
  intro i;rw [sG hnd1 (p:=Q) (p':= { Q with parent:=p }) hQ1 rfl,sG h.nd (p:=P) (p':= { P with kids:=fL P.kids at_.toNat id }) hP rfl,hQi,hPi]
 refine⟨by rw [mX,mX];exact h.nd,fun i=>by rw [Ib,Ib];exact h.il i,fun i=>?_,?_,fun i=>?_,fun i hi=>?_,Aq h.nn hn⟩
 .rw [hf];by_cases a:i=id
  .subst a;rw [aL rfl,aD (fun e=>hne e.symm)];have:=h.kk i;rw [aD (fun e=>hne e.symm),hQe] at this;exact this
  rw [aD a];by_cases a2:i=p
  .rw [aL a2,aL a2];show fL P.kids _ _=_;rw [hpk]
  rw [aD a2,aD a2,h.kk i,aD a2]
 .rw [hf,aD hne,aL rfl];show P.kind=2;rw [<- hPe];exact h.kd
 .rw [hf];by_cases a:i=id
  .rw [aL a,aL (Ci.2 (.inl a))]
  rw [aD a];have e3:(i∈fL now at_.toNat id)↔i∈now:=by rw [Ci];simp [a]
  simp only [e3];by_cases a2:i=p
  .rw [aL a2,<- h.pr i,a2,hPe]
  rw [aD a2];exact h.pr i
 rcases Ci.1 hi with rfl | hi
 .exact hid
 exact h.isn i hi
theorem KI.mov {y z:RD} {id at_:Int} {c:Int} (h:KI x y p now)(hp:fO x.l p=true)(hn:id∈now)(ha:0<=at_/\at_<now.length) {a3:Int}
  (hd:Doc y ⟨4,id,at_,a3,s1,s2⟩ z c):c=0/\KI x z p (fL (kQ now id) at_.toNat id):=by
 obtain⟨b,b2,n,hb, -,hdo⟩:=hd;have he:=hdo.2.2.2.2.1 rfl;dsimp only at he;have hpk:=h.kk p;rw [if_pos rfl] at hpk;have hpar:(aI y.l id).parent=p:=by rw [h.pr id,aL hn]
 have e1:fO y.l p=true:=by rw [h.il];exact hp
 have e2:fO y.l id=true:=by rw [h.il];exact h.isn id hn
 unfold movX at he;rw [hpar,aD (by rw [e2];simp),hpk,aD (by rw [e1];rintro(q | q | q) <;> first | omega | simp at q)] at he;simp only [gF] at he;obtain⟨rfl,rfl⟩:=he;refine⟨rfl,?_⟩;obtain⟨P,hP,hPi,hPe⟩:=eV e1;rw [hPe];rw [hPe] at hpk;have hf:∀i,aI (dJ y.l { P with kids:=fL (kQ now id) at_.toNat id }) i=if i=p then { P with kids:=fL (kQ now id) at_.toNat id } else aI y.l i:=by
  intro i;rw [sG h.nd (p:=P) (p':= { P with kids:=fL (kQ now id) at_.toNat id }) hP rfl,hPi]
 have hm:∀i,i∈fL (kQ now id) at_.toNat id↔i∈now:=by
  intro i;rw [Ci];unfold kQ;rw [cX];constructor
  .rintro(rfl | q)
   .exact hn
   exact q.1
  intro q;by_cases e:i=id
  .exact .inl e
  exact .inr ⟨q,by simp [e]⟩
 refine⟨by rw [mX];exact h.nd,fun i=>by rw [Ib];exact h.il i,fun i=>?_,?_,fun i=>?_,fun i hi=>h.isn i ((hm i).1 hi),Aq (Ju h.nn) (by unfold kQ;simp)⟩
 .rw [hf];by_cases a2:i=p
  .rw [aL a2,aL a2]
  rw [aD a2,aD a2,h.kk i,aD a2]
 .rw [hf,aL rfl];show P.kind=2;rw [<- hPe];exact h.kd
 rw [hf];simp only [hm];by_cases a2:i=p
 .rw [aL a2,<- h.pr i,a2,hPe]
 rw [aD a2];exact h.pr i
theorem KI.zero (hw:WT x.l rk)(hp:fO x.l p=true)(hk:(aI x.l p).kind=2):KI x x p (aI x.l p).kids:=by
 obtain⟨P,hP,hPi,hPe⟩:=eV hp;refine⟨hw.nd,fun _=>rfl,fun i=>by split <;> simp [*],hk,fun i=>?_,fun i hi=>?_,by rw [hPe];exact hw.kn P hP⟩
 .split
  .rename_i hi;rw [hPe] at hi;obtain⟨c,hc,rfl,hc2⟩:=hw.kids P hP i hi;rw [qV hw.nd hc,hc2,hPi]
  rfl
 rw [hPe] at hi;obtain⟨c,hc,rfl,hc2⟩:=hw.kids P hP i hi;exact aP4 hw.nd hc
theorem drop_nil {a b:List Int} (h:aQ5 a b= []):a.filter (fun x=>decide (x∈b))=a:=by
 unfold aQ5 at h;rw [List.map_eq_nil_iff,sE] at h;rw [nL];intro x hx;have:=h x hx;simpa using this
end Go.Proofs.YtbgfljpnhhdkoaaGreat
namespace Go.Proofs.YtbgfljpnhhdkoaaGreat.Lis
end Go.Proofs.YtbgfljpnhhdkoaaGreat.Lis
namespace Go.Proofs.YtbgfljpnhhdkoaaGreat
open Go Go.Vm
end Go.Proofs.YtbgfljpnhhdkoaaGreat
