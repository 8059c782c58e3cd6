import Derived.Test.YtbgfljpnhhdkoaaGreatPaKid
import Derived.Test.YtbgfljpnhhdkoaaGreatWkWv4
set_option maxHeartbeats 8000000
set_option linter.all false
set_option maxRecDepth 20000
namespace Go.Proofs.YtbgfljpnhhdkoaaGreat
open Go Go.Vm
variable {now:List Int}{p:Int}{rk:Int->Nat}{s1 s2:ByteArray}{x:RD}
theorem aN7 {x y:List ND} {rk':Int->Nat} (hx:Dec x rk)(hy:Dec y rk')(hk:∀i,i≠p->(aI y i).kids=(aI x i).kids):∀(n:Nat) (id:Int),rk id<=n->p∉dP x rk id->dP y rk' id=dP x rk id:=by
 intro n;induction n with
 | zero=>
  intro id hid hp;have hne:id≠p:=fun e=>hp (e ▸ mQ hx id);rw [jN hx,jN hy,hk id hne,hx.nil (by omega)];rfl
 | succ n ih=>
  intro id hid hp;have hne:id≠p:=fun e=>hp (e ▸ mQ hx id);rw [jN hx] at hp;rw [jN hx,jN hy,hk id hne];congr 1;exact mG fun k hk'=>ih k (by have:=hx id k hk';omega) fun hpk=>hp (gK _ (lW.2 ⟨k,hk',hpk⟩))
structure KI(x y:RD)(p:Int)(now:List Int):Prop where
 nd:(y.l.map ND.ID).Nodup
 il:∀i,fK y.l i=fK x.l i
 kk:∀i,(aI y.l i).kids=if i=p then now else(aI x.l i).kids
 kd:(aI y.l p).kind=2
 pr:∀i,(aI y.l i).parent=if i∈now then p else(aI x.l i).parent
 isn:∀i∈now,fK x.l i=true
 nn:now.Nodup
theorem Bg {l:List Int} {i:Nat} {x y:Int} :y∈fI l i x↔y=x\/y∈l:=wR
theorem KI.ins {y z:RD} {id at_:Int} {c:Int} (h:KI x y p now)(hD:Dec x.l rk)(hp:fK x.l p=true)(hid:fK x.l id=true)(h0:id≠0)(hpar:(aI x.l id).parent<0)(hw:p∉dP x.l rk id)(hn:id∉now)(ha:0<=at_/\at_<=now.length)
  (hd:Doc y ⟨3,p,at_,id,s1,s2⟩ z c):c=0/\KI x z p (fI now at_.toNat id):=by
 obtain⟨b,b2,n,hb, -,hdo⟩:=hd;have he:=hdo.2.2.2.1 rfl;dsimp only at he;obtain⟨rk',hD',rfl⟩:=hb;have hpk:=h.kk p;rw [if_pos rfl] at hpk;have hbel:dP y.l rk' id=dP x.l rk id:=aN7 hD hD' (fun i hi=>by rw [h.kk i,aD hi]) (rk id) id (aX _) hw;have hpp:(aI y.l id).parent<0:=by rw [h.pr id,aD hn];exact hpar
 have hwb:nO y.l (dP y.l rk') p id=false:=by
  unfold nO;rw [hbel,Bool.and_eq_false_iff];refine .inr ?_;rw [qE];intro k hk;simp only [eZ];rintro rfl;exact hw hk
 have e1:fK y.l p=true:=by rw [h.il];exact hp
 have e2:fK y.l id=true:=by rw [h.il];exact hid
 unfold insX at he;rw [aD (by rw [e1,e2];simp),aD (by simp [h.kd]),aD (by rw [hwb,hpk];rintro(q | q | q | q | q) <;> first | omega | simp at q)] at he;simp only [gA] at he;obtain⟨rfl,rfl⟩:=he;refine⟨rfl,?_⟩;obtain⟨P,hP,hPi,hPe⟩:=eN e1;obtain⟨Q,hQ,hQi,hQe⟩:=eN e2;have hne:p≠id:=by rintro rfl;exact hw (mQ hD _)
 rw [hPe,hQe];rw [hPe] at hpk;have hnd1:((dF y.l { P with kids:=fI P.kids at_.toNat id }).map ND.ID).Nodup:=by rw [mJ];exact h.nd
 have hQ1:Q∈dF y.l { P with kids:=fI P.kids at_.toNat id } :=by
  unfold dF;refine aW.2 ⟨Q,hQ,?_⟩;rw [aD];show ¬Q.ID=P.ID;rw [hQi,hPi];exact fun e=>hne e.symm
 have hf:∀i,aI (dF (dF y.l { P with kids:=fI P.kids at_.toNat id }) { Q with parent:=p }) i=if i=id then { Q with parent:=p } else if i=p then { P with kids:=fI P.kids at_.toNat id } else aI y.l i:=by
  intro i;rw [sA hnd1 (p:=Q) (p':= { Q with parent:=p }) hQ1 rfl,sA h.nd (p:=P) (p':= { P with kids:=fI P.kids at_.toNat id }) hP rfl,hQi,hPi]
 refine⟨by rw [mJ,mJ];exact h.nd,fun i=>by rw [Hp,Hp];exact h.il i,fun i=>?_,?_,fun i=>?_,fun i hi=>?_,As h.nn hn⟩
 .rw [hf];by_cases a:i=id
  .subst a;rw [aJ rfl,aD (fun e=>hne e.symm)];have:=h.kk i;rw [aD (fun e=>hne e.symm),hQe] at this;exact this
  rw [aD a];by_cases a2:i=p
  .rw [aJ a2,aJ a2];show fI P.kids _ _=_;rw [hpk]
  rw [aD a2,aD a2,h.kk i,aD a2]
 .rw [hf,aD hne,aJ rfl];show P.kind=2;rw [<- hPe];exact h.kd
 .rw [hf];by_cases a:i=id
  .rw [aJ a,aJ (Bg.2 (.inl a))]
  rw [aD a];have e3:(i∈fI now at_.toNat id)↔i∈now:=by rw [Bg];simp [a]
  simp only [e3];by_cases a2:i=p
  .rw [aJ a2,<- h.pr i,a2,hPe]
  rw [aD a2];exact h.pr i
 rcases Bg.1 hi with rfl | hi
 .exact hid
 exact h.isn i hi
theorem KI.mov {y z:RD} {id at_:Int} {c:Int} (h:KI x y p now)(hp:fK x.l p=true)(hn:id∈now)(ha:0<=at_/\at_<now.length) {a3:Int}
  (hd:Doc y ⟨4,id,at_,a3,s1,s2⟩ z c):c=0/\KI x z p (fI (kJ now id) at_.toNat id):=by
 obtain⟨b,b2,n,hb, -,hdo⟩:=hd;have he:=hdo.2.2.2.2.1 rfl;dsimp only at he;have hpk:=h.kk p;rw [if_pos rfl] at hpk;have hpar:(aI y.l id).parent=p:=by rw [h.pr id,aJ hn]
 have e1:fK y.l p=true:=by rw [h.il];exact hp
 have e2:fK y.l id=true:=by rw [h.il];exact h.isn id hn
 unfold movX at he;rw [hpar,aD (by rw [e2];simp),hpk,aD (by rw [e1];rintro(q | q | q) <;> first | omega | simp at q)] at he;simp only [gA] at he;obtain⟨rfl,rfl⟩:=he;refine⟨rfl,?_⟩;obtain⟨P,hP,hPi,hPe⟩:=eN e1;rw [hPe];rw [hPe] at hpk;have hf:∀i,aI (dF y.l { P with kids:=fI (kJ now id) at_.toNat id }) i=if i=p then { P with kids:=fI (kJ now id) at_.toNat id } else aI y.l i:=by
  intro i;rw [sA h.nd (p:=P) (p':= { P with kids:=fI (kJ now id) at_.toNat id }) hP rfl,hPi]
 have hm:∀i,i∈fI (kJ now id) at_.toNat id↔i∈now:=by
  intro i;rw [Bg];unfold kJ;rw [cS];constructor
  .rintro(rfl | q)
   .exact hn
   exact q.1
  intro q;by_cases e:i=id
  .exact .inl e
  exact .inr ⟨q,by simp [e]⟩
 refine⟨by rw [mJ];exact h.nd,fun i=>by rw [Hp];exact h.il i,fun i=>?_,?_,fun i=>?_,fun i hi=>h.isn i ((hm i).1 hi),As (Hv h.nn) (by unfold kJ;simp)⟩
 .rw [hf];by_cases a2:i=p
  .rw [aJ a2,aJ a2]
  rw [aD a2,aD a2,h.kk i,aD a2]
 .rw [hf,aJ rfl];show P.kind=2;rw [<- hPe];exact h.kd
 rw [hf];simp only [hm];by_cases a2:i=p
 .rw [aJ a2,<- h.pr i,a2,hPe]
 rw [aD a2];exact h.pr i
theorem KI.zero (hw:WT x.l rk)(hp:fK x.l p=true)(hk:(aI x.l p).kind=2):KI x x p (aI x.l p).kids:=by
 obtain⟨P,hP,hPi,hPe⟩:=eN hp;refine⟨hw.nd,fun _=>rfl,fun i=>by split <;> simp [*],hk,fun i=>?_,fun i hi=>?_,by rw [hPe];exact hw.kn P hP⟩
 .split
  .rename_i hi;rw [hPe] at hi;obtain⟨c,hc,rfl,hc2⟩:=hw.kids P hP i hi;rw [qS hw.nd hc,hc2,hPi]
  rfl
 rw [hPe] at hi;obtain⟨c,hc,rfl,hc2⟩:=hw.kids P hP i hi;exact aN5 hw.nd hc
theorem drop_nil {a b:List Int} (h:aQn a b= []):a.filter (fun x=>decide (x∈b))=a:=by
 unfold aQn at h;rw [List.map_eq_nil_iff,rN] at h;rw [nC];intro x hx;have:=h x hx;simpa using this
end Go.Proofs.YtbgfljpnhhdkoaaGreat
namespace Go.Proofs.YtbgfljpnhhdkoaaGreat.Lis
end Go.Proofs.YtbgfljpnhhdkoaaGreat.Lis
namespace Go.Proofs.YtbgfljpnhhdkoaaGreat
open Go Go.Vm
end Go.Proofs.YtbgfljpnhhdkoaaGreat
