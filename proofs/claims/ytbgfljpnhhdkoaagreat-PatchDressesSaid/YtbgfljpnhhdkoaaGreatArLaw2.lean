import Derived.Test.YtbgfljpnhhdkoaaGreatWkAr15
set_option linter.all false
namespace Go.Proofs.YtbgfljpnhhdkoaaGreat
open Go Go.Vm
variable {K:List Int}{n p:ND}{x:Int}
variable {l:List ND} {rk:Int->Nat}
theorem WT.map(h:WT l rk)(f:ND->ND)(rk':Int->Nat)(hID:∀n∈l,(f n).ID=n.ID)(hk:∀n∈l,∀k∈(f n).kids,∃c∈l,c.ID=k/\(f c).parent=n.ID)
  (hp:∀n∈l,(f n).parent= -1\/∃p∈l,p.ID=(f n).parent/\n.ID∈(f p).kids) (hn:∀n∈l,(f n).kids.Nodup) (hd:∀n∈l,∀k∈(f n).kids,rk' k<rk' n.ID):WT (l.map f) rk':=by
 refine⟨?_,fun n hn' k hk'=>?_,fun n hn'=>?_,fun n hn'=>?_,fun n hn'=>?_,fun n hn' k hk'=>?_⟩
 .have:(l.map f).map ND.ID=l.map ND.ID:=by
   rw [iC];exact eR fun n hn=>hID n hn
  rw [this];exact h.nd
 all_goals obtain⟨x,hx,rfl⟩:=aX.1 hn'
 .obtain⟨c,c1,c2,c3⟩:=hk x hx k hk';exact⟨f c,aX.2 ⟨c,c1,rfl⟩,by rw [hID c c1,c2],by rw [hID x hx,c3]⟩
 .rcases hp x hx with e | ⟨p,p1,p2,p3⟩
  .exact .inl e
  exact .inr ⟨f p,aX.2 ⟨p,p1,rfl⟩,by rw [hID p p1,p2],by rw [hID x hx];exact p3⟩
 .rw [hID x hx];exact h.nn x hx
 .exact hn x hx
 rw [hID x hx];exact hd x hx k hk'
theorem WT.put(h:WT l rk) {n':ND} (hn:n∈l)(h1:n'.ID=n.ID)(h2:n'.kids=n.kids)(h3:n'.parent=n.parent):WT (fI l n') rk:=by
 have hx:∀x∈l,(if x.ID=n'.ID then n' else x).ID=x.ID/\(if x.ID=n'.ID then n' else x).kids=x.kids/\(if x.ID=n'.ID then n' else x).parent=x.parent:=by
  intro x hx;split
  .rename_i e;have:x=n:=lZ h.nd hx hn (by rw [e,h1]);subst this;exact⟨h1,h2,h3⟩
  exact⟨rfl,rfl,rfl⟩
 refine h.map _ rk (fun x m=>(hx x m).1) (fun x m k hk=>?_) (fun x m=>?_) (fun x m=>?_) (fun x m k hk=>?_)
 .rw [(hx x m).2.1] at hk;obtain⟨c,c1,c2,c3⟩:=h.kids x m k hk;exact⟨c,c1,c2,by rw [(hx c c1).2.2];exact c3⟩
 .rw [(hx x m).2.2];rcases h.par x m with e | ⟨p,p1,p2,p3⟩
  .exact .inl e
  exact .inr ⟨p,p1,p2,by rw [(hx p p1).2.1];exact p3⟩
 .rw [(hx x m).2.1];exact h.kn x m
 rw [(hx x m).2.1] at hk;exact h.dec x m k hk
theorem WT.add(h:WT l rk) (h1:n.ID∉l.map ND.ID)(h2:0<=n.ID)(h3:n.kids= [])(h4:n.parent= -1):WT (l++ [n]) rk:=by
 refine⟨?_,fun x hx k hk=>?_,fun x hx=>?_,fun x hx=>?_,fun x hx=>?_,fun x hx k hk=>?_⟩
 .rw [dK,mR];refine⟨h.nd,by simp,fun a ha b hb=>?_⟩;simp at hb;subst hb;rintro rfl;exact h1 ha
 all_goals rcases cK.1 hx with hx | hx
 all_goals try (simp only [gO] at hx;subst hx)
 .obtain⟨c,c1,c2⟩:=h.kids x hx k hk;exact⟨c,iS _ c1,c2⟩
 .rw [h3] at hk;cases hk
 .rcases h.par x hx with e | ⟨p,p1,p2⟩
  .exact .inl e
  exact .inr ⟨p,iS _ p1,p2⟩
 .exact .inl h4
 .exact h.nn x hx
 .exact h2
 .exact h.kn x hx
 .rw [h3];exact Ab
 .exact h.dec x hx k hk
 rw [h3] at hk;cases hk
theorem rF {i:Nat} {y:Int} :y∈fV K i x↔y=x\/y∈K:=by
 unfold fV;rw [cK,bU];have:=cK (a:=y) (s:=K.take i) (t:=K.drop i);rw [fP] at this;rw [this];constructor
 .rintro(h | h | h)
  .exact .inr (.inl h)
  .exact .inl h
  exact .inr (.inr h)
 rintro(h | h | h)
 .exact .inr (.inl h)
 .exact .inl h
 exact .inr (.inr h)
theorem wG {i:Nat} (h:K.Nodup)(hx:x∉K):(fV K i x).Nodup:=by
 unfold fV;have h0:(K.take i++K.drop i).Nodup:=by rw [fP];exact h
 rw [mR] at h0 |-;refine⟨h0.1,iR.2 ⟨fun hm=>hx (yT hm),h0.2.1⟩,fun a ha b hb=>?_⟩;rcases bU.1 hb with rfl | hb
 .rintro rfl;exact hx (oZ ha)
 exact h0.2.2 a ha b hb
theorem vK {y:Int} :y∈iK K x↔y∈K/\y≠x:=by
 unfold iK;simp
theorem Bo (h:K.Nodup):(iK K x).Nodup:=h.sublist sN
theorem WT.ins(h:WT l rk) (hp:p∈l)(hn:n∈l)(hpar:n.parent= -1)(hw:p.ID∉cF l rk n.ID)(i:Nat):
  ∃rk',WT (fI (fI l (jX p (fV p.kids i n.ID))) (Jr n p.ID)) rk':=by
 have hd:=h.Dec;have hne:p.ID≠n.ID:=fun e=>hw (by rw [e];exact nH hd _)
 let f:ND->ND:=fun x=>if x.ID=n.ID then Jr n p.ID else if x.ID=p.ID then jX p (fV p.kids i n.ID)else x
 have hl:fI (fI l (jX p (fV p.kids i n.ID))) (Jr n p.ID)=l.map f:=by
  unfold fI;rw [iC];refine eR fun x hx=>?_;simp only [Function.comp,f];have e1:(jX p (fV p.kids i n.ID)).ID=p.ID:=rfl;have e2:(Jr n p.ID).ID=n.ID:=rfl;rw [e1,e2];by_cases h1:x.ID=p.ID
  .rw [aI h1,aC (by rw [e1];exact hne),aC (by rw [h1];exact hne)]
  rw [aC h1]
 have fp:f p=jX p (fV p.kids i n.ID):=by simp only [f];rw [aC hne];simp
 have fn:f n=Jr n p.ID:=by simp only [f];simp
 have fo:∀x∈l,x≠p->x≠n->f x=x:=fun x hx h1 h2=>by
  simp only [f];rw [aC fun e=>h2 (lZ h.nd hx hn e),aC fun e=>h1 (lZ h.nd hx hp e)]
 have hpn:p≠n:=fun e=>hne (by rw [e]);have hID:∀x∈l,(f x).ID=x.ID:=fun x hx=>by
  by_cases h1:x=p
  .subst h1;rw [fp];rfl
  by_cases h2:x=n
  .subst h2;rw [fn];rfl
  rw [fo x hx h1 h2]
 have hkids:∀x∈l,x≠p->(f x).kids=x.kids:=fun x hx h1=>by
  by_cases h2:x=n
  .subst h2;rw [fn];rfl
  rw [fo x hx h1 h2]
 have hparx:∀x∈l,x≠n->(f x).parent=x.parent:=fun x hx h2=>by
  by_cases h1:x=p
  .subst h1;rw [fp];rfl
  rw [fo x hx h1 h2]
 have hpnn:=h.nn p hp;have hnk:∀x∈l,n.ID∉x.kids:=fun x hx hk=>by
  obtain⟨c,c1,c2,c3⟩:=h.kids x hx _ hk;have:c=n:=lZ h.nd c1 hn c2;subst this;have:=h.nn x hx;omega
 refine⟨fun x=>if x∈cF l rk n.ID then rk x else rk x+(rk n.ID+1),?_⟩;rw [hl];refine h.map f _ hID (fun x hx k hk=>?_) (fun x hx=>?_) (fun x hx=>?_) (fun x hx k hk=>?_)
 .by_cases h1:x=p
  .subst h1;rw [fp] at hk;rcases rF.1 hk with rfl | hk
   .exact⟨n,hn,rfl,by rw [fn];rfl⟩
   obtain⟨c,c1,c2,c3⟩:=h.kids x hx k hk;refine⟨c,c1,c2,?_⟩;rw [hparx c c1 (by rintro rfl;omega)];exact c3
  rw [hkids x hx h1] at hk;obtain⟨c,c1,c2,c3⟩:=h.kids x hx k hk;have:=h.nn x hx;refine⟨c,c1,c2,?_⟩;rw [hparx c c1 (by rintro rfl;omega)];exact c3
 .by_cases h2:x=n
  .subst h2;rw [fn];exact .inr ⟨p,hp,rfl,by rw [fp];exact rF.2 (.inl rfl)⟩
  rw [hparx x hx h2];rcases h.par x hx with e | ⟨q,q1,q2,q3⟩
  .exact .inl e
  refine .inr ⟨q,q1,q2,?_⟩;by_cases h1:q=p
  .subst h1;rw [fp];exact rF.2 (.inr q3)
  rw [hkids q q1 h1];exact q3
 .by_cases h1:x=p
  .subst h1;rw [fp];exact wG (h.kn x hx) (hnk x hx)
  rw [hkids x hx h1];exact h.kn x hx
 have old:∀k∈x.kids,(if k∈cF l rk n.ID then rk k else rk k+(rk n.ID+1))<if x.ID∈cF l rk n.ID then rk x.ID else rk x.ID+(rk n.ID+1):=fun k hk=>by
  have h3:=h.dec x hx k hk;by_cases h4:x.ID∈cF l rk n.ID
  .rw [aI h4,aI (Lj h hx hk h4)];exact h3
  rw [aC h4];split <;> omega
 by_cases h1:x=p
 .subst h1;rw [fp] at hk;rcases rF.1 hk with rfl | hk
  .show(if n.ID∈cF l rk n.ID then _ else _)<if x.ID∈cF l rk n.ID then _ else _
   rw [aI (nH hd _),aC hw];omega
  exact old k hk
 rw [hkids x hx h1] at hk;exact old k hk
theorem WT.mov(h:WT l rk) (hp:p∈l) (hK:K.Nodup)(hm:∀k,k∈K↔k∈p.kids):WT (fI l (jX p K)) rk:=by
 have hx:∀x∈l,(if x.ID=(jX p K).ID then jX p K else x).ID=x.ID/\(∀k,k∈(if x.ID=(jX p K).ID then jX p K else x).kids↔k∈x.kids)/\(if x.ID=(jX p K).ID then jX p K else x).parent=x.parent/\(if x.ID=(jX p K).ID then jX p K else x).kids.Nodup:=by
  intro x hx;split
  .rename_i e;have:x=p:=lZ h.nd hx hp e;subst this;exact⟨rfl,hm,rfl,hK⟩
  exact⟨rfl,fun k=>Iff.rfl,rfl,h.kn x hx⟩
 refine h.map _ rk (fun x m=>(hx x m).1) (fun x m k hk=>?_) (fun x m=>?_) (fun x m=>(hx x m).2.2.2) (fun x m k hk=>?_)
 .obtain⟨c,c1,c2,c3⟩:=h.kids x m k (((hx x m).2.1 k).1 hk);exact⟨c,c1,c2,by rw [(hx c c1).2.2.1];exact c3⟩
 .rw [(hx x m).2.2.1];rcases h.par x m with e | ⟨q,q1,q2,q3⟩
  .exact .inl e
  exact .inr ⟨q,q1,q2,((hx q q1).2.1 _).2 q3⟩
 exact h.dec x m k (((hx x m).2.1 k).1 hk)
theorem qE(hnd:(l.map ND.ID).Nodup) {p':ND} (hp:p∈l)(e:p'.ID=p.ID)(id:Int):aG (fI l p') id=if id=p.ID then p' else aG l id:=by
 have hnd':((fI l p').map ND.ID).Nodup:=by
  have:(fI l p').map ND.ID=l.map ND.ID:=by
   unfold fI;rw [iC];refine eR fun x hx=>?_;simp only [Function.comp];split
   .rename_i h;exact h.symm
   rfl
  rw [this];exact hnd
 split
 .rename_i h;subst h;have hm:p'∈fI l p':=aX.2 ⟨p,hp,by rw [aI e.symm]⟩;rw [<- e];exact nO hnd' hm
 rename_i h;cases hl:eN l id with
 | true=>
  obtain⟨x,x1,x2,x3⟩:=fE hl;have hx:x∈fI l p':=aX.2 ⟨x,x1,by rw [aC (by rw [x2,e];exact h)]⟩;rw [x3,<- x2];exact nO hnd' hx
 | false =>
  rw [jT hl];refine jT ?_;cases hl2:eN (fI l p') id with
  | false=>rfl
  | true =>
   obtain⟨y,y1,y2⟩:=nB.1 hl2;obtain⟨x,hx,hy⟩:=aX.1 y1;have:eN l id=true:=by
    refine nB.2 ⟨x,hx,?_⟩;rw [<- y2,<- hy];split
    .rename_i h;exact h
    rfl
   rw [hl] at this;cases this
theorem yZ(p':ND)(id:Int):eN (fI l p') id=eN l id:=by
 rw [iQ,nB,nB];constructor
 .rintro⟨y,y1,y2⟩;obtain⟨x,hx,hy⟩:=aX.1 y1;refine⟨x,hx,?_⟩;rw [<- y2,<- hy];split
  .rename_i h;exact h
  rfl
 rintro⟨x,x1,x2⟩;refine⟨_,aX.2 ⟨x,x1,rfl⟩,?_⟩;split
 .rename_i h;rw [<- h];exact x2
 exact x2
theorem Dec.rem(h:WT l rk)(id:Int):Dec (remP l id) rk:=fun i k hk=>by
 unfold remP at hk;split at hk
 .rename_i hp;obtain⟨p,p1,p2,p3⟩:=fE hp;rw [p3,qE h.nd p1 (p':=jX p (iK p.kids id)) rfl] at hk;split at hk
  .rename_i e;subst e;exact h.dec p p1 k (vK.1 hk).1
  exact h.Dec i k hk
 exact h.Dec i k hk
theorem Um(h:WT l rk)(id j:Int):((aG (remP l id) j).kids).Sublist (aG l j).kids:=by
 unfold remP;split
 .rename_i hp;obtain⟨p,p1,p2,p3⟩:=fE hp;rw [p3,qE h.nd p1 (p':=jX p (iK p.kids id)) rfl];split
  .rename_i e;subst e;rw [nO h.nd p1];exact sN
  exact zH _
 exact zH _
theorem Xf {K1:List Int} (hs:K1.Sublist K) {f g:Int->List Int} (h:∀k∈K,(f k).length<=(g k).length):(K1.flatMap f).length<=(K.flatMap g).length:=by
 induction hs with
 | slnil=>simp
 | cons a hs ih=>
  rw [gM,bB];have:=ih fun k hk=>h k (by simp [hk]);omega
 | cons_cons a hs ih=>
  rw [gM,gM,bB,bB];have h1:=ih fun k hk=>h k (by simp [hk]);have h2:=h a (by simp);omega
theorem aPg(h:WT l rk)(id:Int):∀j,(cF (remP l id) rk j).length<=(cF l rk j).length:=by
 intro j;generalize hm:rk j=m;induction m using Nat.strongRecOn generalizing j with
 | _ m ih=>
  rw [jI (Dec.rem h id),jI h.Dec,bT,bT];have:=Xf (Um h id j) (f:=cF (remP l id) rk) (g:=cF l rk) fun k hk=>ih (rk k) (by have:=h.Dec j k hk;omega) k rfl;omega
theorem aA5(h:WT l rk)(hl:l.length<=1000)(id:Int):Tr (remP l id) (cF (remP l id) rk) rk:=
 ⟨jI (Dec.rem h id),Dec.rem h id,fun j=>by have h1:=aPg h id j;have h2:=aCv h j;omega⟩
theorem aO3(h:WT l rk) (hn:n∈l):∀j,rk j<=rk n.ID->cF (remP l n.ID) rk j=cF l rk j:=by
 intro j;generalize hm:rk j=m;induction m using Nat.strongRecOn generalizing j with
 | _ m ih =>
  intro hj;have hk:(aG (remP l n.ID) j).kids=(aG l j).kids:=by
   unfold remP;split
   .rename_i hp;rw [nO h.nd hn] at hp |-;obtain⟨p,p1,p2,p3⟩:=fE hp;rw [p3,qE h.nd p1 (p':=jX p (iK p.kids n.ID)) rfl];split
    .rename_i e;subst e;exfalso;rcases h.par n hn with e | ⟨q,q1,q2,q3⟩
     .have:=h.nn p p1;omega
     have:q=p:=lZ h.nd q1 p1 (by rw [q2,p2]);subst this;have:=h.dec q q1 _ q3;omega
    rfl
   rfl
  rw [jI (Dec.rem h _),jI h.Dec,hk];congr 1;refine lQ fun k hk'=>?_;have:=h.Dec j k hk';exact ih (rk k) (by omega) k rfl (by omega)
theorem Ln(B:List Int)(i:Int):(B.any fun k=>decide (k=i))=true↔i∈B:=by rw [Ji];simp
theorem WT.rem(h:WT l rk) (hn:n∈l):WT (wS (remP l n.ID) (cF l rk n.ID)) rk:=by
 have hd:=h.Dec
 let pid:=n.parent
 let f:ND->ND:=fun x=>if eN l n.parent=true/\x.ID=n.parent then jX x (iK x.kids n.ID)else x
 have hl:remP l n.ID=l.map f:=by
  unfold remP;rw [nO h.nd hn];split
  .rename_i hp;obtain⟨p,p1,p2,p3⟩:=fE hp;unfold fI;refine eR fun x hx=>?_;rw [p3];have e1:(jX p (iK p.kids n.ID)).ID=p.ID:=rfl;simp only [f,e1];by_cases e:x.ID=p.ID
   .have:x=p:=lZ h.nd hx p1 e;subst this;rw [aI rfl,aI ⟨hp,p2⟩]
   rw [aC e,aC fun e2=>e (by rw [e2.2,p2])]
  rename_i hp;rw [eR (g:=id)]
  .simp
  intro x _;simp only [f];rw [aC fun e=>hp e.1];rfl
 have fID:∀x,(f x).ID=x.ID:=fun x=>by simp only [f];split <;> rfl
 have fpar:∀x,(f x).parent=x.parent:=fun x=>by simp only [f];split <;> rfl
 have fk:∀x k,k∈(f x).kids->k∈x.kids:=fun x k hk=>by
  simp only [f] at hk;split at hk
  .exact(vK.1 hk).1
  exact hk
 have fk2:∀x k,k∈x.kids->k≠n.ID->k∈(f x).kids:=fun x k hk hne=>by
  simp only [f];split
  .exact vK.2 ⟨hk,hne⟩
  exact hk
 have hB:∀y,y∈wS (remP l n.ID) (cF l rk n.ID)↔∃x∈l,f x=y/\x.ID∉cF l rk n.ID:=fun y=>by
  unfold wS;rw [cY,hl,aX];constructor
  .rintro⟨⟨x,hx,rfl⟩,hb⟩;refine⟨x,hx,rfl,fun hm=>?_⟩;rw [fID] at hb;rw [(Ln _ _).2 hm] at hb;cases hb
  rintro⟨x,hx,rfl,hb⟩;refine⟨⟨x,hx,rfl⟩,?_⟩;rw [fID];cases hc:(cF l rk n.ID).any fun k=>decide (k=x.ID)with
  | false=>rfl
  | true=>exact absurd ((Ln _ _).1 hc) hb
 have hself:=nH hd n.ID;refine⟨?_,fun y hy k hk=>?_,fun y hy=>?_,fun y hy=>?_,fun y hy=>?_,fun y hy k hk=>?_⟩
 .have:(wS (remP l n.ID) (cF l rk n.ID)).map ND.ID=(l.filter fun x=> !(cF l rk n.ID).any fun k=>decide (k=x.ID)).map ND.ID:=by
   unfold wS;rw [hl,List.filter_map,iC];have e1:((fun n_1:ND=> !(cF l rk n.ID).any fun k=>decide (k=n_1.ID)) ∘ f)=fun x=> !(cF l rk n.ID).any fun k=>decide (k=x.ID):=by
    funext x;simp only [Function.comp,fID]
   rw [e1];exact eR fun x _=>fID x
  rw [this];exact h.nd.sublist (Ag _ sN)
 all_goals obtain⟨x,hx,rfl,hb⟩:=(hB _).1 hy
 .have hkx:=fk x k hk;obtain⟨c,c1,c2,c3⟩:=h.kids x hx k hkx;refine⟨f c,(hB _).2 ⟨c,c1,rfl,fun hm=>?_⟩,by rw [fID,c2],by rw [fpar,fID,c3]⟩;rcases xH h c1 hm with e | ⟨q,q1,q2,q3,q4⟩
  .have:c=n:=lZ h.nd c1 hn e;subst this
   -- its parent has it no more
   have hpl:eN l c.parent=true:=nB.2 ⟨x,hx,c3.symm⟩;simp only [f] at hk;rw [aI ⟨hpl,c3.symm⟩] at hk;exact(vK.1 hk).2 c2.symm
  have:q=x:=lZ h.nd q1 hx (by rw [q2,c3]);subst this;exact hb q4
 .rw [fpar,fID];rcases h.par x hx with e | ⟨p,p1,p2,p3⟩
  .exact .inl e
  refine .inr ⟨f p,(hB _).2 ⟨p,p1,rfl,fun hm=>hb (Lj h p1 p3 hm)⟩,by rw [fID,p2],fk2 p _ p3 fun e=>hb (by rw [e];exact hself)⟩
 .rw [fID];exact h.nn x hx
 .simp only [f];split
  .exact Bo (h.kn x hx)
  exact h.kn x hx
 rw [fID];exact h.dec x hx k (fk x k hk)
variable {e:EN}{n':ND}
variable {k m M:Nat} {d:DS} {rk:Int->Nat} {σ:List (List D)}
theorem aO8(es:List EN) (hid:∀x∈es,x.o=e.o->x.n.ID=n'.ID):(Tl es e.o n').map Ue=es.map Ue:=by
 unfold Tl;rw [iC];refine eR fun x hx=>?_;simp only [Function.comp];split
 .rename_i h;simp only [Ue,hid x hx h]
 rfl
theorem aVv(es:List EN)(o:Nat)(n':ND):(Tl es o n').map EN.o=es.map EN.o:=by
 unfold Tl;rw [iC];refine eR fun x hx=>?_;simp only [Function.comp];split <;> rfl
theorem DO.upd(h:DO m M d σ) (he:e∈d.es) (hid:n'.ID=e.n.ID):DO m M (yN d e.o n') (σ.set e.o (gT n')):=by
 have hx:∀x∈d.es,x.o=e.o->x.n.ID=n'.ID:=fun x hx ho=>by rw [Pw h.nd hx he ho,hid]
 have hdc:sW M (yN d e.o n')=sW M d:=by simp only [yN,sW,aO8 d.es hx]
 refine⟨?_,fun y hy=>?_,fun y hy=>?_,?_,by rw [cV];exact h.hM⟩
 .rw [eY (h.nm e he),hdc];exact h.hm
 .obtain⟨x,hx',rfl⟩:=aX.1 hy;by_cases ho:x.o=e.o
  .rw [aI ho];show(σ.set e.o (gT n'))[x.o]?=some (gT n')
   rw [ho];exact aO (h.hn e he) _
  rw [aC ho,eY (gP ho)];exact h.hn x hx'
 .obtain⟨x,hx',rfl⟩:=aX.1 hy;split <;> exact h.nm x hx'
 show((Tl d.es e.o n').map EN.o).Nodup
 rw [aVv];exact h.nd
theorem Fk(ho:(d.es.map EN.o).Nodup)(hn:(d.l.map ND.ID).Nodup) (he:e∈d.es) (hid:n'.ID=e.n.ID):(yN d e.o n').l=fI d.l n':=by
 unfold yN Tl fI;simp only [DS.l,iC];refine eR fun x hx=>?_;simp only [Function.comp];by_cases h:x.o=e.o
 .have:=Pw ho hx he h;subst this;rw [aI rfl,aI hid.symm]
 rw [aC h,aC];intro h2;apply h;have h3:x.n=e.n:=lZ hn (iD hx) (iD he) (by rw [h2,hid]);obtain⟨i,hi,rfl⟩:=kN hx;obtain⟨j,hj,rfl⟩:=kN he;have hp:=pZ.1 hn;rcases sH i j with h1 | rfl | h1
 .exact absurd (congrArg ND.ID h3) (by have:=hp i j (by simpa using hi) (by simpa using hj) h1;simpa using this)
 .rfl
 exact absurd (congrArg ND.ID h3.symm) (by have:=hp j i (by simpa using hj) (by simpa using hi) h1;simpa using this)
theorem aKr {es:List EN} {x:EN} {o:Nat} (hx:x∈es)(h:x.o≠o):x∈Tl es o n':=aX.2 ⟨x,hx,by rw [aC h]⟩
theorem nN(l:List ND)(n':ND):(fI l n').map ND.ID=l.map ND.ID:=by
 unfold fI;rw [iC];refine eR fun x hx=>?_;simp only [Function.comp];split
 .rename_i h;exact h.symm
 rfl
theorem DO.add(h:DO m M d σ)(n:ND):DO m M (wK d n σ.length) (σ.set m (sW M (wK d n σ.length))++ [gT n]):=by
 refine⟨dE h.hm _ _,fun y hy=>?_,fun y hy=>?_,?_,by rw [bB,cV];have:=h.hM;omega⟩
 .rcases cK.1 hy with hy | hy
  .rw [aW (by rw [cV];exact h.lt hy),eY (gP (h.nm y hy))];exact h.hn y hy
  simp only [gO] at hy;subst hy;show(σ.set m _++ [gT n])[σ.length]?=_
  rw [bQ (by simp)];simp
 .rcases cK.1 hy with hy | hy
  .exact h.nm y hy
  simp only [gO] at hy;subst hy;have:=lC h.hm;show σ.length≠m;omega
 show((d.es++ [_]).map EN.o).Nodup
 rw [dK,mR];refine⟨h.nd,by simp,fun a ha b hb=>?_⟩;simp at hb;subst hb;obtain⟨x,hx,rfl⟩:=aX.1 ha;have:=h.lt hx;omega
theorem DO.del(h:DO m M d σ)(g:List Int):DO m M (wN d g) (σ.set m (sW M (wN d g))):=by
 have hm:∀y∈(wN d g).es,y∈d.es:=fun y hy=>(cY.1 hy).1;refine⟨aO h.hm _,fun y hy=>?_,fun y hy=>h.nm y (hm y hy),h.nd.sublist (Ag _ sN),by rw [cV];exact h.hM⟩;rw [eY (gP (h.nm y (hm y hy)))];exact h.hn y (hm y hy)
theorem Zk(d:DS)(g:List Int):(wN d g).l=wS d.l g:=by
 unfold wN wS;simp only [DS.l,List.filter_map];rfl
structure IP0(k:Nat)(d:DS):Prop where
 nd:(d.l.map ND.ID).Nodup
 len:d.es.length<=k+1
 most:1<=d.most/\d.most<=65536
 nx:1<=d.next/\d.next<=k+1
 lt:∀n∈d.l,n.ID<d.next
 sz:∀n∈d.l,n.kids.length<=k/\n.classes.length<=k/\n.attrs.length<=k/\n.styles.length<=k
 st:∀n∈d.l,Sorted nA n.attrs/\Sorted nP n.styles
 rt:∃n∈d.l,n.ID=0/\n.parent= -1/\n.kind=2
 kd:∀n∈d.l,n.kind=1\/n.kind=2
 room:(d.es.length:Int) - 1<=d.most
structure IV(k m M:Nat)(d:DS)(rk:Int->Nat)(σ:List (List D)):Prop where
 ho:DO m M d σ
 ip:IP0 k d
 wt:WT d.l rk
theorem IP0.mono(h:IP0 k d) {k':Nat} (hk:k<=k'):IP0 k' d:=
 ⟨h.nd,by have:=h.len;omega,h.most,⟨h.nx.1,by have:=h.nx.2;omega⟩,h.lt,fun n hn=>by obtain⟨a,b,c,e⟩:=h.sz n hn;exact⟨by omega,by omega,by omega,by omega⟩,h.st,h.rt,h.kd,h.room⟩
theorem IV.mono(h:IV k m M d rk σ):IV (k+1) m M d rk σ:=⟨h.ho,h.ip.mono (by omega),h.wt⟩
theorem IV.app(h:IV k m M d rk σ)(J:List (List D)):IV k m M d rk (σ++J):=⟨h.ho.app J,h.ip,h.wt⟩
theorem IP0.NB(h:IP0 k d)(hk:k<=900):NB d.l:=
 ⟨by have:=h.len;simp only [DS.l,bI];omega,fun n hn=>by have:=(h.sz n hn).1;omega,fun n hn=>by have:=(h.sz n hn).2.1;omega,fun n hn=>by have:=(h.sz n hn).2.2.1;omega,fun n hn=>by have:=(h.sz n hn).2.2.2;omega⟩
theorem vO(d:DS):d.l.length=d.es.length:=by simp
theorem IV.WD(h:IV k m M d rk σ)(hk:k<=900):WD d (cF d.l rk) rk:=
 ⟨h.ip.NB hk,fun e he=>nO h.ip.nd (iD he),h.wt.Tr (by have:=h.ip.len;rw [vO];omega),fun e he k hk=>by
  obtain⟨c,c1,c2,_⟩:=h.wt.kids _ (iD he) k hk;exact nB.2 ⟨c,c1,c2⟩⟩
theorem aVg {n:ND} (h:n∈d.l):∃e∈d.es,e.n=n:=aX.1 h
theorem IV.WP(h:IV k m M d rk σ):WP d:=by
 refine⟨fun e he=>?_,fun e he=>h.wt.nn _ (iD he)⟩;rcases h.wt.par _ (iD he)with e1 | ⟨p,p1,p2,p3⟩
 .exact .inl e1
 obtain⟨q,q1,rfl⟩:=aVg p1;refine .inr ⟨q,q1,p2,fun ho=>?_⟩;have:=Pw h.ho.nd q1 he ho;subst this;have:=h.wt.dec _ p1 _ p3;omega
theorem IP0.root(h:IP0 k d):eN d.l 0=true:=by
 obtain⟨n,h1,h2,_⟩:=h.rt;exact nB.2 ⟨n,h1,h2⟩
theorem IP0.fresh(h:IP0 k d):eN d.l d.next=false:=by
 cases hl:eN d.l d.next with
 | false=>rfl
 | true=>obtain⟨n,h1,h2⟩:=nB.1 hl;have:=h.lt n h1;omega
theorem Xx(d:DS)(o:Nat)(n':ND):(yN d o n').es.length=d.es.length:=by simp [yN,Tl]
theorem IP0.put(h:IP0 k d)(ho:(d.es.map EN.o).Nodup) (he:e∈d.es) {k':Nat} (hk:k<=k')(hid:n'.ID=e.n.ID)(hs:n'.kids.length<=k'/\n'.classes.length<=k'/\n'.attrs.length<=k'/\n'.styles.length<=k')
  (hst:Sorted nA n'.attrs/\Sorted nP n'.styles) (hr:n'.ID=0->n'.parent=e.n.parent) (hkd:n'.kind=e.n.kind):IP0 k' (yN d e.o n'):=by
 have hl:=Fk ho h.nd he hid;have hm:∀y∈(yN d e.o n').l,y=n'\/y∈d.l:=fun y hy=>by
  rw [hl] at hy;unfold fI at hy;obtain⟨x,hx,rfl⟩:=aX.1 hy;split
  .exact .inl rfl
  exact .inr hx
 refine⟨by rw [hl,nN];exact h.nd,by rw [Xx];have:=h.len;omega,h.most,⟨h.nx.1,by have:=h.nx.2;show d.next<=_;omega⟩,fun y hy=>?_,fun y hy=>?_,fun y hy=>?_,?_,fun y hy=>?_,by rw [Xx];exact h.room⟩
 .rcases hm y hy with rfl | hy
  .rw [hid];exact h.lt _ (iD he)
  exact h.lt y hy
 .rcases hm y hy with rfl | hy
  .exact hs
  obtain⟨a,b,c,e⟩:=h.sz y hy;exact⟨by omega,by omega,by omega,by omega⟩
 .rcases hm y hy with rfl | hy
  .exact hst
  exact h.st y hy
 .obtain⟨r,r1,r2,r3,r4⟩:=h.rt;rw [hl];by_cases e0:r.ID=n'.ID
  .have:r=e.n:=lZ h.nd r1 (iD he) (by rw [e0,hid]);subst this;exact⟨n',aX.2 ⟨e.n,r1,by rw [aI e0]⟩,by rw [<- e0,r2],by rw [hr (by rw [<- e0,r2]),r3],by rw [hkd,r4]⟩
  exact⟨r,aX.2 ⟨r,r1,by rw [aC e0]⟩,r2,r3,r4⟩
 rcases hm y hy with rfl | hy
 .rw [hkd];exact h.kd _ (iD he)
 exact h.kd y hy
theorem IV.add(h:IV k m M d rk σ) {n:ND} (hr:(d.es.length:Int) - 1<d.most)(h1:n.ID=d.next)(h3:n.kids= [])(h4:n.parent= -1)(h5:n.classes= [])(h6:n.attrs= [])(h7:n.styles= [])(h8:n.kind=1\/n.kind=2):IV (k+1) m M (wK d n σ.length) rk (σ.set m (sW M (wK d n σ.length))++ [gT n]):=by
 have hl:(wK d n σ.length).l=d.l++ [n]:=by simp [wK,DS.l]
 have hm:∀y∈(wK d n σ.length).l,y∈d.l\/y=n:=fun y hy=>by rw [hl] at hy;simpa using hy
 have hnin:n.ID∉d.l.map ND.ID:=fun hm=>by
  obtain⟨x,hx,e⟩:=aX.1 hm;have:=h.ip.lt x hx;omega
 have hwt:WT (wK d n σ.length).l rk:=by rw [hl];exact h.wt.add hnin (by have:=h.ip.nx.1;omega) h3 h4
 refine⟨h.ho.add n,⟨hwt.nd,?_,h.ip.most,?_,fun y hy=>?_,fun y hy=>?_,fun y hy=>?_,?_,fun y hy=>?_,?_⟩,hwt⟩
 .have:=h.ip.len;simp only [wK,bB,bT,dF];omega
 .have:=h.ip.nx;show 1<=d.next+1/\d.next+1<=((k+1:Nat):Int)+1;omega
 .show y.ID<d.next+1
  rcases hm y hy with hy | rfl
  .have:=h.ip.lt y hy;omega
  omega
 .rcases hm y hy with hy | rfl
  .obtain⟨a,b,c,e⟩:=h.ip.sz y hy;exact⟨by omega,by omega,by omega,by omega⟩
  rw [h3,h5,h6,h7];simp
 .rcases hm y hy with hy | rfl
  .exact h.ip.st y hy
  rw [h6,h7];exact⟨List.Pairwise.nil,List.Pairwise.nil⟩
 .obtain⟨r,r1,r2⟩:=h.ip.rt;exact⟨r,by rw [hl];exact iS _ r1,r2⟩
 .rcases hm y hy with hy | rfl
  .exact h.ip.kd y hy
  exact h8
 simp only [wK,bB,bT,dF];omega
theorem IV.set(h:IV k m M d rk σ) (he:e∈d.es) (hid:n'.ID=e.n.ID)(h2:n'.kids=e.n.kids)(h3:n'.parent=e.n.parent)(h4:n'.kind=e.n.kind)(hs:n'.classes.length<=k+1/\n'.attrs.length<=k+1/\n'.styles.length<=k+1)(hst:Sorted nA n'.attrs/\Sorted nP n'.styles):
  IV (k+1) m M (yN d e.o n') rk (σ.set e.o (gT n'))/\(yN d e.o n').x=⟨d.most,d.next,fI d.l n'⟩:=by
 have hl:=Fk h.ho.nd h.ip.nd he hid;have hk:=(h.ip.sz _ (iD he)).1;refine⟨⟨h.ho.upd he hid,h.ip.put h.ho.nd he (by omega) hid ⟨by rw [h2];omega,hs⟩ hst (fun _=>h3) h4,by rw [hl];exact h.wt.put (iD he) hid h2 h3⟩,?_⟩;show(⟨d.most,d.next,(yN d e.o n').l⟩:RD)=_
 rw [hl]
theorem sD(n:ND)(K:List Int):(jX n K).ID=n.ID:=rfl
theorem Sp(n:ND)(p:Int):(Jr n p).ID=n.ID:=rfl
theorem yF(d:DS)(o:Nat)(n':ND):∀e∈(yN d o n').es,∃e0∈d.es,e0.o=e.o:=fun e he=>by
 obtain⟨x,hx,rfl⟩:=aX.1 he;exact⟨x,hx,by split <;> rfl⟩
theorem IV.ins(h:IV k m M d rk σ) {p n:EN} (hp:p∈d.es)(hn:n∈d.es)(hpar:n.n.parent= -1)(h0:¬n.n.ID=0)(hw:p.n.ID∉cF d.l rk n.n.ID)(i:Nat)(hi:i<=p.n.kids.length):
  ∃d' rk',IV (k+1) m M d' rk' ((σ.set p.o (gT (jX p.n (fV p.n.kids i n.n.ID)))).set n.o (gT (Jr n.n p.n.ID)))/\d'.x=⟨d.most,d.next,fI (fI d.l (jX p.n (fV p.n.kids i n.n.ID))) (Jr n.n p.n.ID)⟩/\∀e∈d'.es,∃e0∈d.es,e0.o=e.o:=by
 have hne:n.o≠p.o:=fun e=>by
  have:=Pw h.ho.nd hn hp e;subst this;exact hw (nH h.wt.Dec _)
 obtain⟨rk',hwt⟩:=h.wt.ins (iD hp) (iD hn) hpar hw i;have hd1:=h.ho.upd hp (sD p.n (fV p.n.kids i n.n.ID));have hn1:n∈(yN d p.o (jX p.n (fV p.n.kids i n.n.ID))).es:=aKr hn hne;obtain⟨s1,s2,s3,s4⟩:=h.ip.sz _ (iD hp);obtain⟨t1,t2,t3,t4⟩:=h.ip.sz _ (iD hn);have hp1:=h.ip.put h.ho.nd hp (k':=k+1) (by omega) (sD p.n (fV p.n.kids i n.n.ID)) ⟨by show(fV _ _ _).length<=_;rw [jW _ _ _ hi];omega,by show p.n.classes.length<=_;omega,by show p.n.attrs.length<=_;omega,by show p.n.styles.length<=_;omega⟩ (h.ip.st p.n (iD hp)) (fun _=>rfl) rfl;have hl1:=Fk h.ho.nd h.ip.nd hp (sD p.n (fV p.n.kids i n.n.ID));have hd2:=hd1.upd hn1 (Sp n.n p.n.ID);have hp2:=hp1.put hd1.nd hn1 (k':=k+1) (aV _) (Sp n.n p.n.ID) ⟨by show n.n.kids.length<=_;omega,by show n.n.classes.length<=_;omega,by show n.n.attrs.length<=_;omega,by show n.n.styles.length<=_;omega⟩ (h.ip.st n.n (iD hn)) (fun e=>absurd e h0) rfl;have hl2:=Fk hd1.nd hp1.nd hn1 (Sp n.n p.n.ID);refine⟨_,rk',⟨hd2,hp2,by rw [hl2,hl1];exact hwt⟩,?_,fun e he=>by
  obtain⟨e1,h1,q1⟩:=yF _ _ _ e he;obtain⟨e2,h2,q2⟩:=yF _ _ _ e1 h1;exact⟨e2,h2,q2.trans q1⟩⟩
 show(⟨d.most,d.next,(yN _ n.o _).l⟩:RD)=_
 rw [hl2,hl1]
theorem IV.mov(h:IV k m M d rk σ) {p:EN} (hp:p∈d.es) {K:List Int} (hK:K.Nodup)(hm:∀j,j∈K↔j∈p.n.kids)(hlen:K.length<=k+1):
  ∃d',IV (k+1) m M d' rk (σ.set p.o (gT (jX p.n K)))/\d'.x=⟨d.most,d.next,fI d.l (jX p.n K)⟩/\∀e∈d'.es,∃e0∈d.es,e0.o=e.o:=by
 obtain⟨s1,s2,s3,s4⟩:=h.ip.sz _ (iD hp);have hl:=Fk h.ho.nd h.ip.nd hp (sD p.n K);refine⟨_,⟨h.ho.upd hp (sD p.n K),h.ip.put h.ho.nd hp (k':=k+1) (by omega) (sD p.n K) ⟨hlen,by show p.n.classes.length<=_;omega,by show p.n.attrs.length<=_;omega,by show p.n.styles.length<=_;omega⟩ (h.ip.st p.n (iD hp)) (fun _=>rfl) rfl,by rw [hl];exact h.wt.mov (iD hp) hK hm⟩,?_,yF _ _ _⟩;show(⟨d.most,d.next,(yN _ p.o _).l⟩:RD)=_
 rw [hl]
end Go.Proofs.YtbgfljpnhhdkoaaGreat
