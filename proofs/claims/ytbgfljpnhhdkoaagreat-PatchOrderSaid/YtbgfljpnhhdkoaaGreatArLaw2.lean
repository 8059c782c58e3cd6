import Derived.Test.YtbgfljpnhhdkoaaGreatWkAr15
set_option linter.all false
namespace Go.Proofs.YtbgfljpnhhdkoaaGreat
open Go Go.Vm
variable {l:List ND} {rk:Int→Nat}
theorem WT.map(h:WT l rk)(f:ND→ND)(rk':Int→Nat)(hID:∀n∈l,(f n).ID=n.ID)(hk:∀n∈l,∀k∈(f n).kids,∃c∈l,c.ID=k∧(f c).parent=n.ID)
  (hp:∀n∈l,(f n).parent= -1∨∃p∈l,p.ID=(f n).parent∧n.ID∈(f p).kids) (hn:∀n∈l,(f n).kids.Nodup) (hd:∀n∈l,∀k∈(f n).kids,rk' k<rk' n.ID):WT (l.map f) rk':=by
 refine⟨?_,fun n hn' k hk'=>?_,fun n hn'=>?_,fun n hn'=>?_,fun n hn'=>?_,fun n hn' k hk'=>?_⟩
 ·have:(l.map f).map ND.ID=l.map ND.ID:=by
   rw [List.map_map];exact List.map_congr_left fun n hn=>hID n hn
  rw [this];exact h.nd
 all_goals obtain⟨x,hx,rfl⟩:=List.mem_map.1 hn'
 ·obtain⟨c,c1,c2,c3⟩:=hk x hx k hk';exact⟨f c,List.mem_map.2 ⟨c,c1,rfl⟩,by rw [hID c c1,c2],by rw [hID x hx,c3]⟩
 ·rcases hp x hx with e | ⟨p,p1,p2,p3⟩
  ·exact .inl e
  exact .inr ⟨f p,List.mem_map.2 ⟨p,p1,rfl⟩,by rw [hID p p1,p2],by rw [hID x hx];exact p3⟩
 ·rw [hID x hx];exact h.nn x hx
 ·exact hn x hx
 rw [hID x hx];exact hd x hx k hk'
theorem WT.put(h:WT l rk) {n n':ND} (hn:n∈l)(h1:n'.ID=n.ID)(h2:n'.kids=n.kids)(h3:n'.parent=n.parent):WT (dH l n') rk:=by
 have hx:∀x∈l,(if x.ID=n'.ID then n' else x).ID=x.ID∧(if x.ID=n'.ID then n' else x).kids=x.kids∧(if x.ID=n'.ID then n' else x).parent=x.parent:=by
  intro x hx;split
  ·rename_i e;have:x=n:=gR h.nd hx hn (by rw [e,h1]);subst this;exact⟨h1,h2,h3⟩
  exact⟨rfl,rfl,rfl⟩
 refine h.map _ rk (fun x m=>(hx x m).1) (fun x m k hk=>?_) (fun x m=>?_) (fun x m=>?_) (fun x m k hk=>?_)
 ·rw [(hx x m).2.1] at hk;obtain⟨c,c1,c2,c3⟩:=h.kids x m k hk;exact⟨c,c1,c2,by rw [(hx c c1).2.2];exact c3⟩
 ·rw [(hx x m).2.2];rcases h.par x m with e | ⟨p,p1,p2,p3⟩
  ·exact .inl e
  exact .inr ⟨p,p1,p2,by rw [(hx p p1).2.1];exact p3⟩
 ·rw [(hx x m).2.1];exact h.kn x m
 rw [(hx x m).2.1] at hk;exact h.dec x m k hk
theorem WT.add(h:WT l rk) {n:ND} (h1:n.ID∉l.map ND.ID)(h2:0≤n.ID)(h3:n.kids= [])(h4:n.parent= -1):WT (l++ [n]) rk:=by
 refine⟨?_,fun x hx k hk=>?_,fun x hx=>?_,fun x hx=>?_,fun x hx=>?_,fun x hx k hk=>?_⟩
 ·rw [List.map_append,List.nodup_append];refine⟨h.nd,by simp,fun a ha b hb=>?_⟩;simp at hb;subst hb;rintro rfl;exact h1 ha
 all_goals rcases List.mem_append.1 hx with hx | hx
 all_goals try (simp only [List.mem_singleton] at hx;subst hx)
 ·obtain⟨c,c1,c2⟩:=h.kids x hx k hk;exact⟨c,List.mem_append_left _ c1,c2⟩
 ·rw [h3] at hk;cases hk
 ·rcases h.par x hx with e | ⟨p,p1,p2⟩
  ·exact .inl e
  exact .inr ⟨p,List.mem_append_left _ p1,p2⟩
 ·exact .inl h4
 ·exact h.nn x hx
 ·exact h2
 ·exact h.kn x hx
 ·rw [h3];exact List.nodup_nil
 ·exact h.dec x hx k hk
 rw [h3] at hk;cases hk
theorem lE {K:List Int} {i:Nat} {x y:Int} :y∈dG K i x↔y=x∨y∈K:=by
 unfold dG;rw [List.mem_append,List.mem_cons];have:=List.mem_append (a:=y) (s:=K.take i) (t:=K.drop i);rw [List.take_append_drop] at this;rw [this];constructor
 ·rintro(h | h | h)
  ·exact .inr (.inl h)
  ·exact .inl h
  exact .inr (.inr h)
 rintro(h | h | h)
 ·exact .inr (.inl h)
 ·exact .inl h
 exact .inr (.inr h)
theorem oY {K:List Int} {i:Nat} {x:Int} (h:K.Nodup)(hx:x∉K):(dG K i x).Nodup:=by
 unfold dG;have h0:(K.take i++K.drop i).Nodup:=by rw [List.take_append_drop];exact h
 rw [List.nodup_append] at h0 ⊢;refine⟨h0.1,List.nodup_cons.2 ⟨fun hm=>hx (List.mem_of_mem_drop hm),h0.2.1⟩,fun a ha b hb=>?_⟩;rcases List.mem_cons.1 hb with rfl | hb
 ·rintro rfl;exact hx (List.mem_of_mem_take ha)
 exact h0.2.2 a ha b hb
theorem nS {K:List Int} {x y:Int} :y∈eP K x↔y∈K∧y≠x:=by
 unfold eP;simp
theorem sN {K:List Int} {x:Int} (h:K.Nodup):(eP K x).Nodup:=h.sublist List.filter_sublist
theorem WT.ins(h:WT l rk) {p n:ND} (hp:p∈l)(hn:n∈l)(hpar:n.parent= -1)(hw:p.ID∉bN l rk n.ID)(i:Nat):
  ∃rk',WT (dH (dH l (fN p (dG p.kids i n.ID))) (Ai n p.ID)) rk':=by
 have hd:=h.Dec;have hne:p.ID≠n.ID:=fun e=>hw (by rw [e];exact iO hd _)
 let f:ND→ND:=fun x=>if x.ID=n.ID then Ai n p.ID else if x.ID=p.ID then fN p (dG p.kids i n.ID)else x
 have hl:dH (dH l (fN p (dG p.kids i n.ID))) (Ai n p.ID)=l.map f:=by
  unfold dH;rw [List.map_map];refine List.map_congr_left fun x hx=>?_;simp only [Function.comp,f];have e1:(fN p (dG p.kids i n.ID)).ID=p.ID:=rfl;have e2:(Ai n p.ID).ID=n.ID:=rfl;rw [e1,e2];by_cases h1:x.ID=p.ID
  ·rw [if_pos h1,if_neg (by rw [e1];exact hne),if_neg (by rw [h1];exact hne)]
  rw [if_neg h1]
 have fp:f p=fN p (dG p.kids i n.ID):=by simp only [f];rw [if_neg hne];simp
 have fn:f n=Ai n p.ID:=by simp only [f];simp
 have fo:∀x∈l,x≠p→x≠n→f x=x:=fun x hx h1 h2=>by
  simp only [f];rw [if_neg fun e=>h2 (gR h.nd hx hn e),if_neg fun e=>h1 (gR h.nd hx hp e)]
 have hpn:p≠n:=fun e=>hne (by rw [e]);have hID:∀x∈l,(f x).ID=x.ID:=fun x hx=>by
  by_cases h1:x=p
  ·subst h1;rw [fp];rfl
  by_cases h2:x=n
  ·subst h2;rw [fn];rfl
  rw [fo x hx h1 h2]
 have hkids:∀x∈l,x≠p→(f x).kids=x.kids:=fun x hx h1=>by
  by_cases h2:x=n
  ·subst h2;rw [fn];rfl
  rw [fo x hx h1 h2]
 have hparx:∀x∈l,x≠n→(f x).parent=x.parent:=fun x hx h2=>by
  by_cases h1:x=p
  ·subst h1;rw [fp];rfl
  rw [fo x hx h1 h2]
 have hpnn:=h.nn p hp;have hnk:∀x∈l,n.ID∉x.kids:=fun x hx hk=>by
  obtain⟨c,c1,c2,c3⟩:=h.kids x hx _ hk;have:c=n:=gR h.nd c1 hn c2;subst this;have:=h.nn x hx;omega
 refine⟨fun x=>if x∈bN l rk n.ID then rk x else rk x+(rk n.ID+1),?_⟩;rw [hl];refine h.map f _ hID (fun x hx k hk=>?_) (fun x hx=>?_) (fun x hx=>?_) (fun x hx k hk=>?_)
 ·by_cases h1:x=p
  ·subst h1;rw [fp] at hk;rcases lE.1 hk with rfl | hk
   ·exact⟨n,hn,rfl,by rw [fn];rfl⟩
   obtain⟨c,c1,c2,c3⟩:=h.kids x hx k hk;refine⟨c,c1,c2,?_⟩;rw [hparx c c1 (by rintro rfl;omega)];exact c3
  rw [hkids x hx h1] at hk;obtain⟨c,c1,c2,c3⟩:=h.kids x hx k hk;have:=h.nn x hx;refine⟨c,c1,c2,?_⟩;rw [hparx c c1 (by rintro rfl;omega)];exact c3
 ·by_cases h2:x=n
  ·subst h2;rw [fn];exact .inr ⟨p,hp,rfl,by rw [fp];exact lE.2 (.inl rfl)⟩
  rw [hparx x hx h2];rcases h.par x hx with e | ⟨q,q1,q2,q3⟩
  ·exact .inl e
  refine .inr ⟨q,q1,q2,?_⟩;by_cases h1:q=p
  ·subst h1;rw [fp];exact lE.2 (.inr q3)
  rw [hkids q q1 h1];exact q3
 ·by_cases h1:x=p
  ·subst h1;rw [fp];exact oY (h.kn x hx) (hnk x hx)
  rw [hkids x hx h1];exact h.kn x hx
 have old:∀k∈x.kids,(if k∈bN l rk n.ID then rk k else rk k+(rk n.ID+1))<if x.ID∈bN l rk n.ID then rk x.ID else rk x.ID+(rk n.ID+1):=fun k hk=>by
  have h3:=h.dec x hx k hk;by_cases h4:x.ID∈bN l rk n.ID
  ·rw [if_pos h4,if_pos (yP h hx hk h4)];exact h3
  rw [if_neg h4];split <;> omega
 by_cases h1:x=p
 ·subst h1;rw [fp] at hk;rcases lE.1 hk with rfl | hk
  ·show(if n.ID∈bN l rk n.ID then _ else _)<if x.ID∈bN l rk n.ID then _ else _
   rw [if_pos (iO hd _),if_neg hw];omega
  exact old k hk
 rw [hkids x hx h1] at hk;exact old k hk
theorem WT.mov(h:WT l rk) {p:ND} (hp:p∈l) {K:List Int} (hK:K.Nodup)(hm:∀k,k∈K↔k∈p.kids):WT (dH l (fN p K)) rk:=by
 have hx:∀x∈l,(if x.ID=(fN p K).ID then fN p K else x).ID=x.ID∧(∀k,k∈(if x.ID=(fN p K).ID then fN p K else x).kids↔k∈x.kids)∧(if x.ID=(fN p K).ID then fN p K else x).parent=x.parent∧(if x.ID=(fN p K).ID then fN p K else x).kids.Nodup:=by
  intro x hx;split
  ·rename_i e;have:x=p:=gR h.nd hx hp e;subst this;exact⟨rfl,hm,rfl,hK⟩
  exact⟨rfl,fun k=>Iff.rfl,rfl,h.kn x hx⟩
 refine h.map _ rk (fun x m=>(hx x m).1) (fun x m k hk=>?_) (fun x m=>?_) (fun x m=>(hx x m).2.2.2) (fun x m k hk=>?_)
 ·obtain⟨c,c1,c2,c3⟩:=h.kids x m k (((hx x m).2.1 k).1 hk);exact⟨c,c1,c2,by rw [(hx c c1).2.2.1];exact c3⟩
 ·rw [(hx x m).2.2.1];rcases h.par x m with e | ⟨q,q1,q2,q3⟩
  ·exact .inl e
  exact .inr ⟨q,q1,q2,((hx q q1).2.1 _).2 q3⟩
 exact h.dec x m k (((hx x m).2.1 k).1 hk)
theorem mC(hnd:(l.map ND.ID).Nodup) {p p':ND} (hp:p∈l)(e:p'.ID=p.ID)(id:Int):aF (dH l p') id=if id=p.ID then p' else aF l id:=by
 have hnd':((dH l p').map ND.ID).Nodup:=by
  have:(dH l p').map ND.ID=l.map ND.ID:=by
   unfold dH;rw [List.map_map];refine List.map_congr_left fun x hx=>?_;simp only [Function.comp];split
   ·rename_i h;exact h.symm
   rfl
  rw [this];exact hnd
 split
 ·rename_i h;subst h;have hm:p'∈dH l p':=List.mem_map.2 ⟨p,hp,by rw [if_pos e.symm]⟩;rw [← e];exact iN hnd' hm
 rename_i h;cases hl:dF l id with
 | true=>
  obtain⟨x,x1,x2,x3⟩:=dQ hl;have hx:x∈dH l p':=List.mem_map.2 ⟨x,x1,by rw [if_neg (by rw [x2,e];exact h)]⟩;rw [x3,← x2];exact iN hnd' hx
 | false =>
  rw [fK hl];refine fK ?_;cases hl2:dF (dH l p') id with
  | false=>rfl
  | true =>
   obtain⟨y,y1,y2⟩:=iU.1 hl2;obtain⟨x,hx,hy⟩:=List.mem_map.1 y1;have:dF l id=true:=by
    refine iU.2 ⟨x,hx,?_⟩;rw [← y2,← hy];split
    ·rename_i h;exact h
    rfl
   rw [hl] at this;cases this
theorem uU(p':ND)(id:Int):dF (dH l p') id=dF l id:=by
 rw [Bool.eq_iff_iff,iU,iU];constructor
 ·rintro⟨y,y1,y2⟩;obtain⟨x,hx,hy⟩:=List.mem_map.1 y1;refine⟨x,hx,?_⟩;rw [← y2,← hy];split
  ·rename_i h;exact h
  rfl
 rintro⟨x,x1,x2⟩;refine⟨_,List.mem_map.2 ⟨x,x1,rfl⟩,?_⟩;split
 ·rename_i h;rw [← h];exact x2
 exact x2
theorem Dec.rem(h:WT l rk)(id:Int):Dec (remP l id) rk:=fun i k hk=>by
 unfold remP at hk;split at hk
 ·rename_i hp;obtain⟨p,p1,p2,p3⟩:=dQ hp;rw [p3,mC h.nd p1 (p':=fN p (eP p.kids id)) rfl] at hk;split at hk
  ·rename_i e;subst e;exact h.dec p p1 k (nS.1 hk).1
  exact h.Dec i k hk
 exact h.Dec i k hk
theorem In(h:WT l rk)(id j:Int):((aF (remP l id) j).kids).Sublist (aF l j).kids:=by
 unfold remP;split
 ·rename_i hp;obtain⟨p,p1,p2,p3⟩:=dQ hp;rw [p3,mC h.nd p1 (p':=fN p (eP p.kids id)) rfl];split
  ·rename_i e;subst e;rw [iN h.nd p1];exact List.filter_sublist
  exact List.Sublist.refl _
 exact List.Sublist.refl _
theorem Hm {K1 K:List Int} (hs:K1.Sublist K) {f g:Int→List Int} (h:∀k∈K,(f k).length≤(g k).length):(K1.flatMap f).length≤(K.flatMap g).length:=by
 induction hs with
 | slnil=>simp
 | cons a hs ih=>
  rw [List.flatMap_cons,List.length_append];have:=ih fun k hk=>h k (by simp [hk]);omega
 | cons_cons a hs ih=>
  rw [List.flatMap_cons,List.flatMap_cons,List.length_append,List.length_append];have h1:=ih fun k hk=>h k (by simp [hk]);have h2:=h a (by simp);omega
theorem aGh(h:WT l rk)(id:Int):∀j,(bN (remP l id) rk j).length≤(bN l rk j).length:=by
 intro j;generalize hm:rk j=m;induction m using Nat.strongRecOn generalizing j with
 | _ m ih=>
  rw [gA (Dec.rem h id),gA h.Dec,List.length_cons,List.length_cons];have:=Hm (In h id j) (f:=bN (remP l id) rk) (g:=bN l rk) fun k hk=>ih (rk k) (by have:=h.Dec j k hk;omega) k rfl;omega
theorem Nm(h:WT l rk)(hl:l.length≤1000)(id:Int):Tr (remP l id) (bN (remP l id) rk) rk:=
 ⟨gA (Dec.rem h id),Dec.rem h id,fun j=>by have h1:=aGh h id j;have h2:=Qs h j;omega⟩
theorem aFh(h:WT l rk) {n:ND} (hn:n∈l):∀j,rk j≤rk n.ID→bN (remP l n.ID) rk j=bN l rk j:=by
 intro j;generalize hm:rk j=m;induction m using Nat.strongRecOn generalizing j with
 | _ m ih =>
  intro hj;have hk:(aF (remP l n.ID) j).kids=(aF l j).kids:=by
   unfold remP;split
   ·rename_i hp;rw [iN h.nd hn] at hp ⊢;obtain⟨p,p1,p2,p3⟩:=dQ hp;rw [p3,mC h.nd p1 (p':=fN p (eP p.kids n.ID)) rfl];split
    ·rename_i e;subst e;exfalso;rcases h.par n hn with e | ⟨q,q1,q2,q3⟩
     ·have:=h.nn p p1;omega
     have:q=p:=gR h.nd q1 p1 (by rw [q2,p2]);subst this;have:=h.dec q q1 _ q3;omega
    rfl
   rfl
  rw [gA (Dec.rem h _),gA h.Dec,hk];congr 1;refine iK fun k hk'=>?_;have:=h.Dec j k hk';exact ih (rk k) (by omega) k rfl (by omega)
theorem Bf(B:List Int)(i:Int):(B.any fun k=>decide (k=i))=true↔i∈B:=by rw [yF];simp
theorem WT.rem(h:WT l rk) {n:ND} (hn:n∈l):WT (oC (remP l n.ID) (bN l rk n.ID)) rk:=by
 have hd:=h.Dec
 let pid:=n.parent
 let f:ND→ND:=fun x=>if dF l n.parent=true∧x.ID=n.parent then fN x (eP x.kids n.ID)else x
 have hl:remP l n.ID=l.map f:=by
  unfold remP;rw [iN h.nd hn];split
  ·rename_i hp;obtain⟨p,p1,p2,p3⟩:=dQ hp;unfold dH;refine List.map_congr_left fun x hx=>?_;rw [p3];have e1:(fN p (eP p.kids n.ID)).ID=p.ID:=rfl;simp only [f,e1];by_cases e:x.ID=p.ID
   ·have:x=p:=gR h.nd hx p1 e;subst this;rw [if_pos rfl,if_pos ⟨hp,p2⟩]
   rw [if_neg e,if_neg fun e2=>e (by rw [e2.2,p2])]
  rename_i hp;rw [List.map_congr_left (g:=id)]
  ·simp
  intro x _;simp only [f];rw [if_neg fun e=>hp e.1];rfl
 have fID:∀x,(f x).ID=x.ID:=fun x=>by simp only [f];split <;> rfl
 have fpar:∀x,(f x).parent=x.parent:=fun x=>by simp only [f];split <;> rfl
 have fk:∀x k,k∈(f x).kids→k∈x.kids:=fun x k hk=>by
  simp only [f] at hk;split at hk
  ·exact(nS.1 hk).1
  exact hk
 have fk2:∀x k,k∈x.kids→k≠n.ID→k∈(f x).kids:=fun x k hk hne=>by
  simp only [f];split
  ·exact nS.2 ⟨hk,hne⟩
  exact hk
 have hB:∀y,y∈oC (remP l n.ID) (bN l rk n.ID)↔∃x∈l,f x=y∧x.ID∉bN l rk n.ID:=fun y=>by
  unfold oC;rw [List.mem_filter,hl,List.mem_map];constructor
  ·rintro⟨⟨x,hx,rfl⟩,hb⟩;refine⟨x,hx,rfl,fun hm=>?_⟩;rw [fID] at hb;rw [(Bf _ _).2 hm] at hb;cases hb
  rintro⟨x,hx,rfl,hb⟩;refine⟨⟨x,hx,rfl⟩,?_⟩;rw [fID];cases hc:(bN l rk n.ID).any fun k=>decide (k=x.ID)with
  | false=>rfl
  | true=>exact absurd ((Bf _ _).1 hc) hb
 have hself:=iO hd n.ID;refine⟨?_,fun y hy k hk=>?_,fun y hy=>?_,fun y hy=>?_,fun y hy=>?_,fun y hy k hk=>?_⟩
 ·have:(oC (remP l n.ID) (bN l rk n.ID)).map ND.ID=(l.filter fun x=> !(bN l rk n.ID).any fun k=>decide (k=x.ID)).map ND.ID:=by
   unfold oC;rw [hl,List.filter_map,List.map_map];have e1:((fun n_1:ND=> !(bN l rk n.ID).any fun k=>decide (k=n_1.ID)) ∘ f)=fun x=> !(bN l rk n.ID).any fun k=>decide (k=x.ID):=by
    funext x;simp only [Function.comp,fID]
   rw [e1];exact List.map_congr_left fun x _=>fID x
  rw [this];exact h.nd.sublist (List.Sublist.map _ List.filter_sublist)
 all_goals obtain⟨x,hx,rfl,hb⟩:=(hB _).1 hy
 ·have hkx:=fk x k hk;obtain⟨c,c1,c2,c3⟩:=h.kids x hx k hkx;refine⟨f c,(hB _).2 ⟨c,c1,rfl,fun hm=>?_⟩,by rw [fID,c2],by rw [fpar,fID,c3]⟩;rcases qK h c1 hm with e | ⟨q,q1,q2,q3,q4⟩
  ·have:c=n:=gR h.nd c1 hn e;subst this
   -- its parent sY it no more
   have hpl:dF l c.parent=true:=iU.2 ⟨x,hx,c3.symm⟩;simp only [f] at hk;rw [if_pos ⟨hpl,c3.symm⟩] at hk;exact(nS.1 hk).2 c2.symm
  have:q=x:=gR h.nd q1 hx (by rw [q2,c3]);subst this;exact hb q4
 ·rw [fpar,fID];rcases h.par x hx with e | ⟨p,p1,p2,p3⟩
  ·exact .inl e
  refine .inr ⟨f p,(hB _).2 ⟨p,p1,rfl,fun hm=>hb (yP h p1 p3 hm)⟩,by rw [fID,p2],fk2 p _ p3 fun e=>hb (by rw [e];exact hself)⟩
 ·rw [fID];exact h.nn x hx
 ·simp only [f];split
  ·exact sN (h.kn x hx)
  exact h.kn x hx
 rw [fID];exact h.dec x hx k (fk x k hk)
end Go.Proofs.YtbgfljpnhhdkoaaGreat
namespace Go.Proofs.YtbgfljpnhhdkoaaGreat
open Go Go.Vm
variable {k m M:Nat} {d:DS} {rk:Int→Nat} {σ:List (List D)}
theorem aFi(es:List EN) {e:EN} {n':ND} (hid:∀x∈es,x.o=e.o→x.n.ID=n'.ID):(Gs es e.o n').map Hd=es.map Hd:=by
 unfold Gs;rw [List.map_map];refine List.map_congr_left fun x hx=>?_;simp only [Function.comp];split
 ·rename_i h;simp only [Hd,hid x hx h]
 rfl
theorem aIn(es:List EN)(o:Nat)(n':ND):(Gs es o n').map EN.o=es.map EN.o:=by
 unfold Gs;rw [List.map_map];refine List.map_congr_left fun x hx=>?_;simp only [Function.comp];split <;> rfl
theorem DO.upd(h:DO m M d σ) {e:EN} (he:e∈d.es) {n':ND} (hid:n'.ID=e.n.ID):DO m M (qC d e.o n') (σ.set e.o (eG n')):=by
 have hx:∀x∈d.es,x.o=e.o→x.n.ID=n'.ID:=fun x hx ho=>by rw [Do h.nd hx he ho,hid]
 have hdc:mX M (qC d e.o n')=mX M d:=by simp only [qC,mX,aFi d.es hx]
 refine⟨?_,fun y hy=>?_,fun y hy=>?_,?_,by rw [List.length_set];exact h.hM⟩
 ·rw [List.getElem?_set_ne (h.nm e he),hdc];exact h.hm
 ·obtain⟨x,hx',rfl⟩:=List.mem_map.1 hy;by_cases ho:x.o=e.o
  ·rw [if_pos ho];show(σ.set e.o (eG n'))[x.o]?=some (eG n')
   rw [ho];exact aI (h.hn e he) _
  rw [if_neg ho,List.getElem?_set_ne (Ne.symm ho)];exact h.hn x hx'
 ·obtain⟨x,hx',rfl⟩:=List.mem_map.1 hy;split <;> exact h.nm x hx'
 show((Gs d.es e.o n').map EN.o).Nodup
 rw [aIn];exact h.nd
theorem vV(ho:(d.es.map EN.o).Nodup)(hn:(d.l.map ND.ID).Nodup) {e:EN} (he:e∈d.es) {n':ND} (hid:n'.ID=e.n.ID):(qC d e.o n').l=dH d.l n':=by
 unfold qC Gs dH;simp only [DS.l,List.map_map];refine List.map_congr_left fun x hx=>?_;simp only [Function.comp];by_cases h:x.o=e.o
 ·have:=Do ho hx he h;subst this;rw [if_pos rfl,if_pos hid.symm]
 rw [if_neg h,if_neg];intro h2;apply h;have h3:x.n=e.n:=gR hn (eE hx) (eE he) (by rw [h2,hid]);obtain⟨i,hi,rfl⟩:=List.getElem_of_mem hx;obtain⟨j,hj,rfl⟩:=List.getElem_of_mem he;have hp:=List.pairwise_iff_getElem.1 hn;rcases Nat.lt_trichotomy i j with h1 | rfl | h1
 ·exact absurd (congrArg ND.ID h3) (by have:=hp i j (by simpa using hi) (by simpa using hj) h1;simpa using this)
 ·rfl
 exact absurd (congrArg ND.ID h3.symm) (by have:=hp j i (by simpa using hj) (by simpa using hi) h1;simpa using this)
theorem aA0 {es:List EN} {x:EN} {o:Nat} {n':ND} (hx:x∈es)(h:x.o≠o):x∈Gs es o n':=List.mem_map.2 ⟨x,hx,by rw [if_neg h]⟩
theorem jE(l:List ND)(n':ND):(dH l n').map ND.ID=l.map ND.ID:=by
 unfold dH;rw [List.map_map];refine List.map_congr_left fun x hx=>?_;simp only [Function.comp];split
 ·rename_i h;exact h.symm
 rfl
theorem DO.add(h:DO m M d σ)(n:ND):DO m M (oJ d n σ.length) (σ.set m (mX M (oJ d n σ.length))++ [eG n]):=by
 refine⟨cR h.hm _ _,fun y hy=>?_,fun y hy=>?_,?_,by rw [List.length_append,List.length_set];have:=h.hM;omega⟩
 ·rcases List.mem_append.1 hy with hy | hy
  ·rw [List.getElem?_append_left (by rw [List.length_set];exact h.lt hy),List.getElem?_set_ne (Ne.symm (h.nm y hy))];exact h.hn y hy
  simp only [List.mem_singleton] at hy;subst hy;show(σ.set m _++ [eG n])[σ.length]?=_
  rw [List.getElem?_append_right (by simp)];simp
 ·rcases List.mem_append.1 hy with hy | hy
  ·exact h.nm y hy
  simp only [List.mem_singleton] at hy;subst hy;have:=kH h.hm;show σ.length≠m;omega
 show((d.es++ [_]).map EN.o).Nodup
 rw [List.map_append,List.nodup_append];refine⟨h.nd,by simp,fun a ha b hb=>?_⟩;simp at hb;subst hb;obtain⟨x,hx,rfl⟩:=List.mem_map.1 ha;have:=h.lt hx;omega
theorem DO.del(h:DO m M d σ)(g:List Int):DO m M (pE d g) (σ.set m (mX M (pE d g))):=by
 have hm:∀y∈(pE d g).es,y∈d.es:=fun y hy=>(List.mem_filter.1 hy).1;refine⟨aI h.hm _,fun y hy=>?_,fun y hy=>h.nm y (hm y hy),h.nd.sublist (List.Sublist.map _ List.filter_sublist),by rw [List.length_set];exact h.hM⟩;rw [List.getElem?_set_ne (Ne.symm (h.nm y (hm y hy)))];exact h.hn y (hm y hy)
theorem Od(d:DS)(g:List Int):(pE d g).l=oC d.l g:=by
 unfold pE oC;simp only [DS.l,List.filter_map];rfl
structure IP0(k:Nat)(d:DS):Prop where
 nd:(d.l.map ND.ID).Nodup
 len:d.es.length≤k+1
 most:1≤d.most∧d.most≤65536
 nx:1≤d.next∧d.next≤k+1
 lt:∀n∈d.l,n.ID<d.next
 sz:∀n∈d.l,n.kids.length≤k∧n.classes.length≤k∧n.attrs.length≤k∧n.styles.length≤k
 st:∀n∈d.l,cJ nA n.attrs∧cJ nP n.styles
 rt:∃n∈d.l,n.ID=0∧n.parent= -1∧n.kind=2
 kd:∀n∈d.l,n.kind=1∨n.kind=2
 room:(d.es.length:Int) - 1≤d.most
structure IV(k m M:Nat)(d:DS)(rk:Int→Nat)(σ:List (List D)):Prop where
 ho:DO m M d σ
 ip:IP0 k d
 wt:WT d.l rk
theorem IP0.mono(h:IP0 k d) {k':Nat} (hk:k≤k'):IP0 k' d:=
 ⟨h.nd,by have:=h.len;omega,h.most,⟨h.nx.1,by have:=h.nx.2;omega⟩,h.lt,fun n hn=>by obtain⟨a,b,c,e⟩:=h.sz n hn;exact⟨by omega,by omega,by omega,by omega⟩,h.st,h.rt,h.kd,h.room⟩
theorem IV.mono(h:IV k m M d rk σ):IV (k+1) m M d rk σ:=⟨h.ho,h.ip.mono (by omega),h.wt⟩
theorem IV.app(h:IV k m M d rk σ)(J:List (List D)):IV k m M d rk (σ++J):=⟨h.ho.app J,h.ip,h.wt⟩
theorem IP0.NB(h:IP0 k d)(hk:k≤900):NB d.l:=
 ⟨by have:=h.len;simp only [DS.l,List.length_map];omega,fun n hn=>by have:=(h.sz n hn).1;omega,fun n hn=>by have:=(h.sz n hn).2.1;omega,fun n hn=>by have:=(h.sz n hn).2.2.1;omega,fun n hn=>by have:=(h.sz n hn).2.2.2;omega⟩
theorem sA(d:DS):d.l.length=d.es.length:=by simp
theorem IV.WD(h:IV k m M d rk σ)(hk:k≤900):WD d (bN d.l rk) rk:=
 ⟨h.ip.NB hk,fun e he=>iN h.ip.nd (eE he),h.wt.Tr (by have:=h.ip.len;rw [sA];omega),fun e he k hk=>by
  obtain⟨c,c1,c2,_⟩:=h.wt.kids _ (eE he) k hk;exact iU.2 ⟨c,c1,c2⟩⟩
theorem aIi {n:ND} (h:n∈d.l):∃e∈d.es,e.n=n:=List.mem_map.1 h
theorem IV.WP(h:IV k m M d rk σ):WP d:=by
 refine⟨fun e he=>?_,fun e he=>h.wt.nn _ (eE he)⟩;rcases h.wt.par _ (eE he)with e1 | ⟨p,p1,p2,p3⟩
 ·exact .inl e1
 obtain⟨q,q1,rfl⟩:=aIi p1;refine .inr ⟨q,q1,p2,fun ho=>?_⟩;have:=Do h.ho.nd q1 he ho;subst this;have:=h.wt.dec _ p1 _ p3;omega
theorem IP0.fresh(h:IP0 k d):dF d.l d.next=false:=by
 cases hl:dF d.l d.next with
 | false=>rfl
 | true=>obtain⟨n,h1,h2⟩:=iU.1 hl;have:=h.lt n h1;omega
theorem Ik(d:DS)(o:Nat)(n':ND):(qC d o n').es.length=d.es.length:=by simp [qC,Gs]
theorem IP0.put(h:IP0 k d)(ho:(d.es.map EN.o).Nodup) {e:EN} (he:e∈d.es) {n':ND} {k':Nat} (hk:k≤k')(hid:n'.ID=e.n.ID)(hs:n'.kids.length≤k'∧n'.classes.length≤k'∧n'.attrs.length≤k'∧n'.styles.length≤k')
  (hst:cJ nA n'.attrs∧cJ nP n'.styles) (hr:n'.ID=0→n'.parent=e.n.parent) (hkd:n'.kind=e.n.kind):IP0 k' (qC d e.o n'):=by
 have hl:=vV ho h.nd he hid;have hm:∀y∈(qC d e.o n').l,y=n'∨y∈d.l:=fun y hy=>by
  rw [hl] at hy;unfold dH at hy;obtain⟨x,hx,rfl⟩:=List.mem_map.1 hy;split
  ·exact .inl rfl
  exact .inr hx
 refine⟨by rw [hl,jE];exact h.nd,by rw [Ik];have:=h.len;omega,h.most,⟨h.nx.1,by have:=h.nx.2;show d.next≤_;omega⟩,fun y hy=>?_,fun y hy=>?_,fun y hy=>?_,?_,fun y hy=>?_,by rw [Ik];exact h.room⟩
 ·rcases hm y hy with rfl | hy
  ·rw [hid];exact h.lt _ (eE he)
  exact h.lt y hy
 ·rcases hm y hy with rfl | hy
  ·exact hs
  obtain⟨a,b,c,e⟩:=h.sz y hy;exact⟨by omega,by omega,by omega,by omega⟩
 ·rcases hm y hy with rfl | hy
  ·exact hst
  exact h.st y hy
 ·obtain⟨r,r1,r2,r3,r4⟩:=h.rt;rw [hl];by_cases e0:r.ID=n'.ID
  ·have:r=e.n:=gR h.nd r1 (eE he) (by rw [e0,hid]);subst this;exact⟨n',List.mem_map.2 ⟨e.n,r1,by rw [if_pos e0]⟩,by rw [← e0,r2],by rw [hr (by rw [← e0,r2]),r3],by rw [hkd,r4]⟩
  exact⟨r,List.mem_map.2 ⟨r,r1,by rw [if_neg e0]⟩,r2,r3,r4⟩
 rcases hm y hy with rfl | hy
 ·rw [hkd];exact h.kd _ (eE he)
 exact h.kd y hy
theorem IV.add(h:IV k m M d rk σ) {n:ND} (hr:(d.es.length:Int) - 1<d.most)(h1:n.ID=d.next)(h3:n.kids= [])(h4:n.parent= -1)(h5:n.classes= [])(h6:n.attrs= [])(h7:n.styles= [])(h8:n.kind=1∨n.kind=2):IV (k+1) m M (oJ d n σ.length) rk (σ.set m (mX M (oJ d n σ.length))++ [eG n]):=by
 have hl:(oJ d n σ.length).l=d.l++ [n]:=by simp [oJ,DS.l]
 have hm:∀y∈(oJ d n σ.length).l,y∈d.l∨y=n:=fun y hy=>by rw [hl] at hy;simpa using hy
 have hnin:n.ID∉d.l.map ND.ID:=fun hm=>by
  obtain⟨x,hx,e⟩:=List.mem_map.1 hm;have:=h.ip.lt x hx;omega
 have hwt:WT (oJ d n σ.length).l rk:=by rw [hl];exact h.wt.add hnin (by have:=h.ip.nx.1;omega) h3 h4
 refine⟨h.ho.add n,⟨hwt.nd,?_,h.ip.most,?_,fun y hy=>?_,fun y hy=>?_,fun y hy=>?_,?_,fun y hy=>?_,?_⟩,hwt⟩
 ·have:=h.ip.len;simp only [oJ,List.length_append,List.length_cons,List.length_nil];omega
 ·have:=h.ip.nx;show 1≤d.next+1∧d.next+1≤((k+1:Nat):Int)+1;omega
 ·show y.ID<d.next+1
  rcases hm y hy with hy | rfl
  ·have:=h.ip.lt y hy;omega
  omega
 ·rcases hm y hy with hy | rfl
  ·obtain⟨a,b,c,e⟩:=h.ip.sz y hy;exact⟨by omega,by omega,by omega,by omega⟩
  rw [h3,h5,h6,h7];simp
 ·rcases hm y hy with hy | rfl
  ·exact h.ip.st y hy
  rw [h6,h7];exact⟨List.Pairwise.nil,List.Pairwise.nil⟩
 ·obtain⟨r,r1,r2⟩:=h.ip.rt;exact⟨r,by rw [hl];exact List.mem_append_left _ r1,r2⟩
 ·rcases hm y hy with hy | rfl
  ·exact h.ip.kd y hy
  exact h8
 simp only [oJ,List.length_append,List.length_cons,List.length_nil];omega
theorem IV.set(h:IV k m M d rk σ) {e:EN} (he:e∈d.es) {n':ND} (hid:n'.ID=e.n.ID)(h2:n'.kids=e.n.kids)(h3:n'.parent=e.n.parent)(h4:n'.kind=e.n.kind)(hs:n'.classes.length≤k+1∧n'.attrs.length≤k+1∧n'.styles.length≤k+1)(hst:cJ nA n'.attrs∧cJ nP n'.styles):
  IV (k+1) m M (qC d e.o n') rk (σ.set e.o (eG n'))∧(qC d e.o n').x=⟨d.most,d.next,dH d.l n'⟩:=by
 have hl:=vV h.ho.nd h.ip.nd he hid;have hk:=(h.ip.sz _ (eE he)).1;refine⟨⟨h.ho.upd he hid,h.ip.put h.ho.nd he (by omega) hid ⟨by rw [h2];omega,hs⟩ hst (fun _=>h3) h4,by rw [hl];exact h.wt.put (eE he) hid h2 h3⟩,?_⟩;show(⟨d.most,d.next,(qC d e.o n').l⟩:RD)=_
 rw [hl]
theorem lR(n:ND)(K:List Int):(fN n K).ID=n.ID:=rfl
theorem Et(n:ND)(p:Int):(Ai n p).ID=n.ID:=rfl
theorem pU(d:DS)(o:Nat)(n':ND):∀e∈(qC d o n').es,∃e0∈d.es,e0.o=e.o:=fun e he=>by
 obtain⟨x,hx,rfl⟩:=List.mem_map.1 he;exact⟨x,hx,by split <;> rfl⟩
theorem IV.ins(h:IV k m M d rk σ) {p n:EN} (hp:p∈d.es)(hn:n∈d.es)(hpar:n.n.parent= -1)(h0:¬n.n.ID=0)(hw:p.n.ID∉bN d.l rk n.n.ID)(i:Nat)(hi:i≤p.n.kids.length):
  ∃d' rk',IV (k+1) m M d' rk' ((σ.set p.o (eG (fN p.n (dG p.n.kids i n.n.ID)))).set n.o (eG (Ai n.n p.n.ID)))∧d'.x=⟨d.most,d.next,dH (dH d.l (fN p.n (dG p.n.kids i n.n.ID))) (Ai n.n p.n.ID)⟩∧∀e∈d'.es,∃e0∈d.es,e0.o=e.o:=by
 have hne:n.o≠p.o:=fun e=>by
  have:=Do h.ho.nd hn hp e;subst this;exact hw (iO h.wt.Dec _)
 obtain⟨rk',hwt⟩:=h.wt.ins (eE hp) (eE hn) hpar hw i;have hd1:=h.ho.upd hp (lR p.n (dG p.n.kids i n.n.ID));have hn1:n∈(qC d p.o (fN p.n (dG p.n.kids i n.n.ID))).es:=aA0 hn hne;obtain⟨s1,s2,s3,s4⟩:=h.ip.sz _ (eE hp);obtain⟨t1,t2,t3,t4⟩:=h.ip.sz _ (eE hn);have hp1:=h.ip.put h.ho.nd hp (k':=k+1) (by omega) (lR p.n (dG p.n.kids i n.n.ID)) ⟨by show(dG _ _ _).length≤_;rw [fM _ _ _ hi];omega,by show p.n.classes.length≤_;omega,by show p.n.attrs.length≤_;omega,by show p.n.styles.length≤_;omega⟩ (h.ip.st p.n (eE hp)) (fun _=>rfl) rfl;have hl1:=vV h.ho.nd h.ip.nd hp (lR p.n (dG p.n.kids i n.n.ID));have hd2:=hd1.upd hn1 (Et n.n p.n.ID);have hp2:=hp1.put hd1.nd hn1 (k':=k+1) (Nat.le_refl _) (Et n.n p.n.ID) ⟨by show n.n.kids.length≤_;omega,by show n.n.classes.length≤_;omega,by show n.n.attrs.length≤_;omega,by show n.n.styles.length≤_;omega⟩ (h.ip.st n.n (eE hn)) (fun e=>absurd e h0) rfl;have hl2:=vV hd1.nd hp1.nd hn1 (Et n.n p.n.ID);refine⟨_,rk',⟨hd2,hp2,by rw [hl2,hl1];exact hwt⟩,?_,fun e he=>by
  obtain⟨e1,h1,q1⟩:=pU _ _ _ e he;obtain⟨e2,h2,q2⟩:=pU _ _ _ e1 h1;exact⟨e2,h2,q2.trans q1⟩⟩
 show(⟨d.most,d.next,(qC _ n.o _).l⟩:RD)=_
 rw [hl2,hl1]
theorem IV.mov(h:IV k m M d rk σ) {p:EN} (hp:p∈d.es) {K:List Int} (hK:K.Nodup)(hm:∀j,j∈K↔j∈p.n.kids)(hlen:K.length≤k+1):
  ∃d',IV (k+1) m M d' rk (σ.set p.o (eG (fN p.n K)))∧d'.x=⟨d.most,d.next,dH d.l (fN p.n K)⟩∧∀e∈d'.es,∃e0∈d.es,e0.o=e.o:=by
 obtain⟨s1,s2,s3,s4⟩:=h.ip.sz _ (eE hp);have hl:=vV h.ho.nd h.ip.nd hp (lR p.n K);refine⟨_,⟨h.ho.upd hp (lR p.n K),h.ip.put h.ho.nd hp (k':=k+1) (by omega) (lR p.n K) ⟨hlen,by show p.n.classes.length≤_;omega,by show p.n.attrs.length≤_;omega,by show p.n.styles.length≤_;omega⟩ (h.ip.st p.n (eE hp)) (fun _=>rfl) rfl,by rw [hl];exact h.wt.mov (eE hp) hK hm⟩,?_,pU _ _ _⟩;show(⟨d.most,d.next,(qC _ p.o _).l⟩:RD)=_
 rw [hl]
end Go.Proofs.YtbgfljpnhhdkoaaGreat
