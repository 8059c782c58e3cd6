import Derived.Test.YtbgfljpnhhdkoaaGreatWkAr4
import Derived.Test.YtbgfljpnhhdkoaaGreatWkWv0
set_option maxHeartbeats 1000000
set_option linter.all false
namespace Go.Proofs.YtbgfljpnhhdkoaaGreat.Lis
def at0(l:List Int)(i:Nat):Int:=l.getD i 0
def below(l:List Int)(ends:List Nat)(x:Int):Nat:=(ends.takeWhile fun e=>decide (at0 l e<x)).length
def pM(l:List Int)(s:List Nat×List Int)(i:Nat):List Nat×List Int:=
 let n:=below l s.1 (at0 l i)
 (if n=s.1.length then s.1++ [i] else if at0 l i<at0 l (s.1.getD n 0)then s.1.set n i else s.1,s.2++ [if n=0 then -1 else(s.1.getD (n - 1) 0:Int)])
def runE(l:List Int):Nat→List Nat×List Int
 | 0=>([], [])
 | i+1=>pM l (runE l i) i
def chain(ahead:List Int):Nat→Int→List Nat
 | 0,_=> []
 | n+1,c=>if c<0 then [] else c.toNat::chain ahead n (ahead.getD c.toNat (-1))
def ofP(l:List Int):List Nat:=((chain (runE l l.length).2 (l.length+1) (match (runE l l.length).1.getLast? with | some e=>(e:Int) | none=> -1)).reverse)
def rU(l:List Int)(kF:List Nat)(i:Nat):Nat→Nat
 | 0=>1
 | k+1=>if at0 l k<at0 l i∧rU l kF i k≤kF.getD k 0 then kF.getD k 0+1 else rU l kF i k
def kF(l:List Int):Nat→List Nat
 | 0=> []
 | i+1=>kF l i++ [rU l (kF l i) i i]
def dK(l:List Int)(i:Nat):Nat:=(kF l (i+1)).getD i 0
theorem uC(l:List Int):∀n,(kF l n).length=n
 | 0=>rfl
 | n+1=>by simp [kF,uC l n]
theorem Ic(l:List Int):∀(n i:Nat),i<n→(kF l n).getD i 0=dK l i
 | n+1,i,h=>by
  by_cases e:i=n
  ·subst e;rfl
  have:i<(kF l n).length:=by rw [uC];omega
  rw [show kF l (n+1)=kF l n++ [rU l (kF l n) n n] from rfl];rw [List.getD_eq_getElem?_getD,List.getElem?_append_left this,← List.getD_eq_getElem?_getD];exact Ic l n i (by omega)
theorem Wv(l:List Int)(i:Nat):dK l i=rU l (kF l i) i i:=by
 unfold dK;rw [show kF l (i+1)=kF l i++ [rU l (kF l i) i i] from rfl,List.getD_eq_getElem?_getD,List.getElem?_append_right (by rw [uC];exact Nat.le_refl _),uC,Nat.sub_self];rfl
theorem Ds(l:List Int)(i:Nat):∀k,k≤i→1≤rU l (kF l i) i k∧(∀j,j<k→at0 l j<at0 l i→dK l j<rU l (kF l i) i k)∧(rU l (kF l i) i k=1∨∃j,j<k∧at0 l j<at0 l i∧dK l j+1=rU l (kF l i) i k)
 | 0,_=>⟨Nat.le_refl _,fun j h=>by omega,.inl rfl⟩
 | k + 1, hk => by
  obtain⟨h1,h2,h3⟩:=Ds l i k (by omega);have hg:=Ic l i k (by omega);simp only [rU,hg];by_cases c:at0 l k<at0 l i∧rU l (kF l i) i k≤dK l k
  ·rw [if_pos c];refine⟨by omega,fun j hj hl=>?_,.inr ⟨k,by omega,c.1,rfl⟩⟩;by_cases e:j=k
   ·subst e;omega
   have:=h2 j (by omega) hl;omega
  rw [if_neg c];refine⟨h1,fun j hj hl=>?_,?_⟩
  ·by_cases e:j=k
   ·subst e;by_cases c2:rU l (kF l i) i j≤dK l j
    ·exact absurd ⟨hl,c2⟩ c
    omega
   exact h2 j (by omega) hl
  rcases h3 with h3 | ⟨j,a,b,d⟩
  ·exact .inl h3
  exact .inr ⟨j,by omega,b,d⟩
theorem oS(l:List Int)(i:Nat):1≤dK l i∧(∀j,j<i→at0 l j<at0 l i→dK l j<dK l i)∧(dK l i=1∨∃j,j<i∧at0 l j<at0 l i∧dK l j+1=dK l i):=by
 rw [Wv];exact Ds l i i (Nat.le_refl _)
def Dis(l:List Int):Prop:=∀i j,i<l.length→j<l.length→at0 l i=at0 l j→i=j
structure Inv(l:List Int)(i:Nat)(ends:List Nat):Prop where
 lt:∀p e,ends[p]?=some e→e<i∧dK l e=p+1∧∀k,k<i→dK l k=p+1→at0 l e≤at0 l k
 all:∀k,k<i→dK l k≤ends.length
 up:∀p e f,ends[p]?=some e→ends[p+1]?=some f→at0 l e<at0 l f
theorem Inv.mono {l:List Int} {i:Nat} {ends:List Nat} (h:Inv l i ends):∀(d p:Nat) (e f:Nat),ends[p]?=some e→ends[p+d]?=some f→at0 l e≤at0 l f
 | 0,p,e,f,h1,h2=>by rw [Nat.add_zero,h1] at h2;cases h2;exact Int.le_refl _
 | d+1,p,e,f,h1,h2=>by
  have hlt:p+d<ends.length:=by have:=(List.getElem?_eq_some_iff.1 h2).1;omega
  have h3:ends[p+d]?=some ends[p+d]:=List.getElem?_eq_getElem hlt;have:=h.mono d p e _ h1 h3;have:=h.up (p+d) _ f h3 h2;omega
theorem mS {α:Type} (p:α→Bool):∀(l:List α),(∀i a,i<(l.takeWhile p).length→l[i]?=some a→p a=true)∧(∀a,l[(l.takeWhile p).length]?=some a→p a=false)∧(l.takeWhile p).length≤l.length
 | []=>⟨fun i a h=>by simp at h,fun a h=>by simp at h,Nat.le_refl _⟩
 | x :: l => by
  obtain⟨h1,h2,h3⟩:=mS p l;by_cases hx:p x=true
  ·rw [List.takeWhile_cons_of_pos hx];refine⟨fun i a hi ha=>?_,fun a ha=>h2 a (by simpa using ha),by simp;omega⟩;cases i with
   | zero=>simp at ha;subst ha;exact hx
   | succ i=>exact h1 i a (by simpa using hi) (by simpa using ha)
  rw [List.takeWhile_cons_of_neg hx];refine⟨fun i a hi=>by simp at hi,fun a ha=>?_,Nat.zero_le _⟩;simp at ha;subst ha;simpa using hx
theorem Inv.next {l:List Int} {i:Nat} {ends:List Nat} (h:Inv l i ends)(hi:i<l.length)(hd:Dis l):
  let n:=below l ends (at0 l i)
  dK l i=n+1∧n≤ends.length∧Inv l (i+1) (if n=ends.length then ends++ [i] else if at0 l i<at0 l (ends.getD n 0)then ends.set n i else ends):=by
 intro n;obtain⟨t1,t2,t3⟩:=mS (fun e=>decide (at0 l e<at0 l i)) ends;have hn:n=(ends.takeWhile fun e=>decide (at0 l e<at0 l i)).length:=rfl;rw [← hn] at t1 t2 t3;obtain⟨s1,s2,s3⟩:=oS l i;have hlen:dK l i=n+1:=by
  have hle:dK l i≤n+1:=by
   rcases s3 with s3 | ⟨j,a,b,c⟩
   ·omega
   by_cases hp:dK l j≤n
   ·omega
   exfalso;have hj1:=h.all j a;have hjj:=(oS l j).1;have hlt:n<ends.length:=by omega
   have hn2:ends[n]?=some ends[n]:=List.getElem?_eq_getElem hlt;have hx:=t2 _ hn2;have hp2:ends[dK l j - 1]?=some (ends[dK l j - 1]'(by omega)):=List.getElem?_eq_getElem (by omega);have hm:=(h.lt _ _ hp2).2.2 j a (by omega);have hmo:=h.mono (dK l j - 1 - n) n _ _ hn2 (by rw [show n+(dK l j - 1 - n)=dK l j - 1 by omega];exact hp2);simp at hx;omega
  by_cases h0:n=0
  ·omega
  have hlt:n - 1<ends.length:=by omega
  have hp:ends[n - 1]?=some ends[n - 1]:=List.getElem?_eq_getElem hlt;have hx:=t1 (n - 1) _ (by omega) hp;obtain⟨e1,e2,_⟩:=h.lt _ _ hp;have:=s2 _ e1 (by simpa using hx);omega
 refine⟨hlen,t3,?_⟩;have hsplit:∀k,k<i+1→k<i∨k=i:=fun k hk=>by omega
 by_cases c1:n=ends.length
 ·rw [if_pos c1];refine⟨fun p e hp=>?_,fun k hk=>?_,fun p e f he hf=>?_⟩
  ·by_cases hpl:p<ends.length
   ·rw [List.getElem?_append_left hpl] at hp;obtain⟨a,b,c⟩:=h.lt p e hp;refine⟨by omega,b,fun k hk hl=>?_⟩;rcases hsplit k hk with hk | rfl
    ·exact c k hk hl
    omega
   rw [List.getElem?_append_right (by omega)] at hp;have hp0:p - ends.length=0:=by
    have:=(List.getElem?_eq_some_iff.1 hp).1;simp at this;omega
   rw [hp0] at hp;simp at hp;subst hp;refine⟨by omega,by omega,fun k hk hl=>?_⟩;rcases hsplit k hk with hk | rfl
   ·have:=h.all k hk;omega
   exact Int.le_refl _
  ·rw [List.length_append,List.length_singleton];rcases hsplit k hk with hk | rfl
   ·have:=h.all k hk;omega
   omega
  by_cases hpl:p+1<ends.length
  ·rw [List.getElem?_append_left (by omega)] at he;rw [List.getElem?_append_left hpl] at hf;exact h.up p e f he hf
  have hfl:=(List.getElem?_eq_some_iff.1 hf).1;simp at hfl;have hpe:p+1=ends.length:=by omega
  rw [List.getElem?_append_left (by omega)] at he;rw [List.getElem?_append_right (by omega),show p+1 - ends.length=0 by omega] at hf;simp at hf;subst hf;have:=t1 p e (by omega) he;simpa using this
 rw [if_neg c1];have hlt:n<ends.length:=by omega
 have hn2:ends[n]?=some ends[n]:=List.getElem?_eq_getElem hlt;have hgd:ends.getD n 0=ends[n]:=by rw [List.getD_eq_getElem?_getD,hn2];rfl
 have hx:=t2 _ hn2;have hx1:at0 l i≤at0 l ends[n]:=by simpa using hx
 obtain⟨e1,e2,e3⟩:=h.lt _ _ hn2;have hne:at0 l i≠at0 l ends[n]:=fun e=>by
  have:=hd i ends[n] hi (by omega) e;omega
 have c2:at0 l i<at0 l (ends.getD n 0):=by rw [hgd];omega
 rw [if_pos c2];refine⟨fun p e hp=>?_,fun k hk=>?_,fun p e f he hf=>?_⟩
 ·rw [List.getElem?_set] at hp;by_cases hpn:n=p
  ·subst hpn;rw [if_pos rfl,if_pos hlt] at hp;cases hp;refine⟨by omega,hlen,fun k hk hl=>?_⟩;rcases hsplit k hk with hk | rfl
   ·have:=e3 k hk hl;omega
   exact Int.le_refl _
  rw [if_neg hpn] at hp;obtain⟨a,b,c⟩:=h.lt p e hp;refine⟨by omega,b,fun k hk hl=>?_⟩;rcases hsplit k hk with hk | rfl
  ·exact c k hk hl
  omega
 ·rw [List.length_set];rcases hsplit k hk with hk | rfl
  ·exact h.all k hk
  omega
 rw [List.getElem?_set] at he hf;by_cases h1:n=p
 ·subst h1;rw [if_pos rfl,if_pos hlt] at he;rw [if_neg (by omega)] at hf;cases he;have:=h.up n _ f hn2 hf;omega
 rw [if_neg h1] at he;by_cases h2:n=p+1
 ·rw [if_pos h2,if_pos hlt] at hf;cases hf;have:=t1 p e (by omega) he;simpa using this
 rw [if_neg h2] at hf;exact h.up p e f he hf
theorem Gb(l:List Int)(hd:Dis l):∀i,i≤l.length→Inv l i (runE l i).1∧(runE l i).2.length=i∧∀k,k<i→(if dK l k=1 then(runE l i).2.getD k (-1)= -1 else ∃j,(runE l i).2.getD k (-1)=(j:Nat)∧j<k∧dK l j+1=dK l k∧at0 l j<at0 l k∧∀m,m<k→dK l m+1=dK l k→at0 l j≤at0 l m)
 | 0,_=>⟨⟨fun p e h=>by simp [runE] at h,fun k h=>by omega,fun p e f h=>by simp [runE] at h⟩,rfl,fun k h=>by omega⟩
 | i + 1, hi => by
  obtain⟨h1,h2,h3⟩:=Gb l hd i (by omega);obtain⟨a1,a2,a3⟩:=h1.next (by omega) hd;refine⟨a3,by simp [runE,pM,h2],fun k hk=>?_⟩;have hget:∀x:Int,((runE l i).2++ [x]).getD k (-1)=if k<i then(runE l i).2.getD k (-1)else x:=fun x=>by
   by_cases e:k<i
   ·rw [if_pos e,List.getD_eq_getElem?_getD,List.getElem?_append_left (by omega),← List.getD_eq_getElem?_getD]
   rw [if_neg e,List.getD_eq_getElem?_getD,List.getElem?_append_right (by omega),h2,show k - i=0 by omega];rfl
  simp only [runE,pM];rw [hget];by_cases e:k<i
  ·rw [if_pos e];exact h3 k e
  rw [if_neg e];obtain rfl:k=i:=by omega
  rw [a1];by_cases h0:below l (runE l k).1 (at0 l k)=0
  ·rw [if_pos (by omega),if_pos h0]
  rw [if_neg (by omega),if_neg h0];have hlt:below l (runE l k).1 (at0 l k) - 1<(runE l k).1.length:=by omega
  have hp:(runE l k).1[below l (runE l k).1 (at0 l k) - 1]?=some ((runE l k).1[below l (runE l k).1 (at0 l k) - 1]):=List.getElem?_eq_getElem hlt;obtain⟨t1,_,_⟩:=mS (fun e=>decide (at0 l e<at0 l k)) (runE l k).1;have hx:=t1 (below l (runE l k).1 (at0 l k) - 1) _ (by unfold below at h0 ⊢;omega) hp;obtain⟨e1,e2,e3⟩:=h1.lt _ _ hp;refine⟨_,by rw [List.getD_eq_getElem?_getD,hp];rfl,e1,by omega,by simpa using hx,fun m hm hl=>e3 m hm (by omega)⟩
def fX(l:List Int)(n behind:Nat):Nat→Option Nat
 | 0=>none
 | k+1=>if dK l k=n∧(behind=l.length∨at0 l k<at0 l behind)∧(∀b∈fX l n behind k,at0 l k<at0 l b)then some k else fX l n behind k
def tQ(l:List Int):Nat→Nat→List Nat
 | 0,_=> []
 | n+1,behind=>(fX l (n+1) behind behind).getD 0::tQ l n ((fX l (n+1) behind behind).getD 0)
def iF(l:List Int):Nat→Nat
 | 0=>0
 | k+1=>max (iF l k) (dK l k)
def ofR(l:List Int):List Nat:=(tQ l (iF l l.length) l.length).reverse
theorem hU(l:List Int)(n behind:Nat):∀k,(∀j,fX l n behind k=some j→j<k∧dK l j=n∧(behind=l.length∨at0 l j<at0 l behind)∧∀m,m<k→dK l m=n→(behind=l.length∨at0 l m<at0 l behind)→at0 l j≤at0 l m)∧(fX l n behind k=none→∀m,m<k→¬(dK l m=n∧(behind=l.length∨at0 l m<at0 l behind)))
 | 0=>⟨fun j h=>by simp [fX] at h,fun _ m h=>by omega⟩
 | k + 1 => by
  obtain⟨h1,h2⟩:=hU l n behind k;have hs:∀m,m<k+1→m<k∨m=k:=fun m hm=>by omega
  simp only [fX];by_cases c:dK l k=n∧(behind=l.length∨at0 l k<at0 l behind)∧(∀b∈fX l n behind k,at0 l k<at0 l b)
  ·rw [if_pos c];refine⟨fun j hj=>?_,fun h=>by cases h⟩;cases hj;refine⟨by omega,c.1,c.2.1,fun m hm hl hf=>?_⟩;rcases hs m hm with hm | rfl
   ·cases hb:fX l n behind k with
    | none=>exact absurd ⟨hl,hf⟩ (h2 hb m hm)
    | some b=>
     have:=(h1 b hb).2.2.2 m hm hl hf;have:=c.2.2 b hb;omega
   exact Int.le_refl _
  rw [if_neg c];refine⟨fun j hj=>?_,fun hb m hm=>?_⟩
  ·obtain⟨a1,a2,a3,a4⟩:=h1 j hj;refine⟨by omega,a2,a3,fun m hm hl hf=>?_⟩;rcases hs m hm with hm | rfl
   ·exact a4 m hm hl hf
   by_cases e:at0 l j≤at0 l m
   ·exact e
   exact absurd ⟨hl,hf,fun b hb=>by rw [hj] at hb;cases hb;omega⟩ c
  rcases hs m hm with hm | rfl
  ·exact h2 hb m hm
  exact fun⟨x,y⟩=>c ⟨x,y,fun b hb'=>by rw [hb] at hb';cases hb'⟩
theorem uL(l:List Int):∀k,(∀j,j<k→dK l j≤iF l k)∧(iF l k=0∨∃j,j<k∧dK l j=iF l k)
 | 0=>⟨fun j h=>by omega,.inl rfl⟩
 | k + 1 => by
  obtain⟨h1,h2⟩:=uL l k;refine⟨fun j hj=>?_,?_⟩
  ·simp only [iF];by_cases e:j=k
   ·subst e;omega
   have:=h1 j (by omega);omega
  simp only [iF];by_cases e:iF l k≤dK l k
  ·exact .inr ⟨k,by omega,by omega⟩
  rcases h2 with h2 | ⟨j,a,b⟩
  ·omega
  exact .inr ⟨j,by omega,by omega⟩
theorem aEu(l:List Int)(k:Nat)(h:dK l k≠1):∃j,j<k∧at0 l j<at0 l k∧dK l j+1=dK l k:=by
 rcases(oS l k).2.2 with h' | h'
 ·exact absurd h' h
 exact h'
theorem Ku(l:List Int)(hd:Dis l)(ah:List Int)(hah:∀k,k<l.length→(if dK l k=1 then ah.getD k (-1)= -1 else ∃j,ah.getD k (-1)=(j:Nat)∧j<k∧dK l j+1=dK l k∧at0 l j<at0 l k∧∀m,m<k→dK l m+1=dK l k→at0 l j≤at0 l m)):
  ∀(n f k:Nat),k<l.length→dK l k=n+1→n+2≤f→chain ah f (k:Int)=k::tQ l n k
 | 0,f,k,hk,hl,hf=>by
  obtain⟨f,rfl⟩:∃g,f=g+2:=⟨f - 2,by omega⟩;have h:=hah k hk;rw [if_pos (by omega)] at h;simp only [chain,tQ];rw [if_neg (by omega),Int.toNat_natCast,h];simp
 | n + 1, f, k, hk, hl, hf => by
  obtain⟨f,rfl⟩:∃g,f=g+1:=⟨f - 1,by omega⟩;have h:=hah k hk;rw [if_neg (by omega)] at h;obtain⟨j,j1,j2,j3,j4,j5⟩:=h;obtain⟨b1,b2⟩:=hU l (n+1) k k;have hb:fX l (n+1) k k=some j:=by
   cases hbb:fX l (n+1) k k with
   | none=>exact absurd ⟨by omega,.inr j4⟩ (b2 hbb j j2)
   | some b=>
    obtain⟨c1,c2,c3,c4⟩:=b1 b hbb;have h1:=c4 j j2 (by omega) (.inr j4);have h2:=j5 b c1 (by omega);have:=hd b j (by omega) (by omega) (by omega);rw [this]
  simp only [chain,tQ,hb,Option.getD_some];rw [if_neg (by omega),Int.toNat_natCast,j1,Ku l hd ah hah n f j (by omega) (by omega) (by omega)]
theorem ofP_ofR(l:List Int)(hd:Dis l):ofP l=ofR l:=by
 obtain⟨h1,h2,h3⟩:=Gb l hd l.length (Nat.le_refl _);obtain⟨m1,m2⟩:=uL l l.length;unfold ofP ofR;congr 1;have hmax:iF l l.length=(runE l l.length).1.length:=by
  apply Nat.le_antisymm
  ·rcases m2 with m2 | ⟨j,a,b⟩
   ·omega
   rw [← b];exact h1.all j a
  by_cases h0:(runE l l.length).1.length=0
  ·omega
  have hp:(runE l l.length).1[(runE l l.length).1.length - 1]?=some ((runE l l.length).1[(runE l l.length).1.length - 1]'(by omega)):=List.getElem?_eq_getElem (by omega);obtain⟨a,b,_⟩:=h1.lt _ _ hp;have:=m1 _ a;omega
 cases hg:(runE l l.length).1.getLast? with
 | none=>
  have h0:(runE l l.length).1= []:=by simpa using hg
  rw [hmax,h0];simp [tQ,chain]
 | some e =>
  have hne:(runE l l.length).1≠ []:=by intro e0;rw [e0] at hg;simp at hg
  have hpos:0<(runE l l.length).1.length:=List.length_pos_iff.2 hne;have hp:(runE l l.length).1[(runE l l.length).1.length - 1]?=some e:=by rw [← hg,List.getLast?_eq_getElem?]
  obtain⟨a,b,c⟩:=h1.lt _ _ hp;obtain⟨b1,b2⟩:=hU l (iF l l.length) l.length l.length;have hle:dK l e=iF l l.length:=by rw [hmax];omega
  have hb:fX l (iF l l.length) l.length l.length=some e:=by
   cases hbb:fX l (iF l l.length) l.length l.length with
   | none=>exact absurd ⟨hle,.inl rfl⟩ (b2 hbb e a)
   | some x=>
    obtain⟨c1,c2,c3,c4⟩:=b1 x hbb;have g1:=c4 e a hle (.inl rfl);have g2:=c x c1 (by omega);have:=hd x e (by omega) (by omega) (by omega);rw [this]
  obtain⟨n,hn⟩:∃n,iF l l.length=n+1:=⟨iF l l.length - 1,by omega⟩;have hfl:n+2≤l.length+1:=by
   have hinj:(runE l l.length).1.length≤l.length:=by
    have key:∀i,i≤l.length→(runE l i).1.length≤i:=fun i=>by
     induction i with
     | zero=>intro _;exact Nat.le_refl _
     | succ i ih=>
      intro h;have:=ih (by omega);simp only [runE,pM];split
      ·simp;omega
      split
      ·simp;omega
      omega
    exact key _ (Nat.le_refl _)
   omega
  simp only [];rw [Ku l hd _ h3 n (l.length+1) e a (by omega) hfl,hn];rw [hn] at hb;simp only [tQ,hb,Option.getD_some]
end Go.Proofs.YtbgfljpnhhdkoaaGreat.Lis
namespace Go.Proofs.YtbgfljpnhhdkoaaGreat
open Go Go.Vm
def mV(os:List Int)(x:Int):List Int:=if x∈os then os else os++ [x]
def bF(l:List Int):List Int:=l.foldl mV []
theorem sF(l:List Int)(x:Int):bF (l++ [x])=mV (bF l) x:=by simp [bF]
theorem iL(l:List Int)(k:Nat)(h:k<l.length):l.take (k+1)=l.take k++ [l[k]]:=by
 rw [List.take_succ_eq_append_getElem h]
theorem Yh {os:List Int} {x y:Int} :y∈mV os x↔y∈os∨y=x:=by
 unfold mV;split
 ·constructor
  ·exact .inl
  rintro(h | rfl)
  ·exact h
  assumption
 simp
theorem Dj:∀(l os:List Int) (y:Int),y∈l.foldl mV os↔y∈os∨y∈l
 | [],os,y=>by simp
 | x::l,os,y=>by
  rw [List.foldl_cons,Dj l,Yh];simp [or_assoc]
theorem kL {l:List Int} {y:Int} :y∈bF l↔y∈l:=by simp [bF,Dj]
theorem Lm {os:List Int} {x:Int} (h:os.Nodup):(mV os x).Nodup:=by
 unfold mV;split
 ·exact h
 rename_i hx;rw [List.nodup_append];exact⟨h,by simp,fun a ha b hb=>by simp at hb;subst hb;rintro rfl;exact hx ha⟩
theorem xD:∀(l os:List Int),os.Nodup→(l.foldl mV os).Nodup
 | [],os,h=>h
 | x::l,os,h=>xD l _ (Lm h)
theorem qE(l:List Int):(bF l).Nodup:=xD l [] (by simp)
theorem xM:∀(l os:List Int),(os++l).Nodup→l.foldl mV os=os++l
 | [],os,_=>by simp
 | x :: l, os, h => by
  have hx:x∉os:=fun hx=>by
   rw [List.nodup_append] at h;exact h.2.2 x hx x (by simp) rfl
  rw [List.foldl_cons,show mV os x=os++ [x] by simp [mV,hx],xM l _ (by simpa using h)];simp
theorem kY {l:List Int} (h:l.Nodup):bF l=l:=by simpa [bF] using xM l [] (by simpa using h)
theorem aAy(os:List Int)(x:Int):(mV os x).length≤os.length+1:=by unfold mV;split <;> simp
theorem Dd:∀(l os:List Int),(l.foldl mV os).length≤os.length+l.length
 | [],os=>by simp
 | x::l,os=>by
  have h:=Dd l (mV os x);have:=aAy os x;simp only [List.foldl_cons,List.length_cons];omega
theorem nM(l:List Int):(bF l).length≤l.length:=by simpa [bF] using Dd l []
def rT(f:Int→Int)(os:List Int):List (Value×Nat×D):=os.zipIdx.map fun p=>(.int .i64 p.1,p.2,D.int (f p.1))
theorem tH(f:Int→Int)(os:List Int)(j:Nat):(rT f os)[j]?=(os[j]?).map fun x=>(.int .i64 x,j,D.int (f x)):=by
 simp [rT,List.getElem?_map,List.getElem?_zipIdx];rfl
theorem aAp(f:Int→Int)(os:List Int)(x:Int):rT f (os++ [x])=rT f os++ [(.int .i64 x,os.length,D.int (f x))]:=by
 simp [rT,List.zipIdx_append]
theorem Qm {f:Int→Int} {os:List Int} {e:Value×Nat×D} (h:e∈rT f os):∃x∈os,e.1= .int .i64 x:=by
 obtain⟨j,hj⟩:=List.getElem?_of_mem h;rw [tH] at hj;cases hx:os[j]? with
 | none=>rw [hx] at hj;cases hj
 | some x=>rw [hx] at hj;simp at hj;exact⟨x,List.mem_of_getElem? hx,by rw [← hj]⟩
theorem aC8(f:Int→Int)(os:List Int)(x:Int):wE (rT f os) (.int .i64 x) (D.int 0) (D.int (if x∈os then f x else 0)) (decide (x∈os)):=by
 unfold wE;by_cases h:x∈os
 ·obtain⟨j,hj⟩:=List.getElem?_of_mem h;exact .inl ⟨by simp [h],j,j,by rw [tH,hj];simp [h]⟩
 refine .inr ⟨by simp [h],by simp [h],fun e he hk=>?_⟩;obtain⟨y,hy,hy2⟩:=Qm he;rw [hy2] at hk;simp at hk;subst hk;exact h hy
theorem Jb(f:Int→Int)(os:List Int)(x v:Int)(hv:v=f x):Ts (rT f os) os.length (.int .i64 x) (D.int v) (rT f (mV os x)) (mV os x).length:=by
 subst hv;unfold Ts mV;by_cases h:x∈os
 ·obtain⟨j,hj⟩:=List.getElem?_of_mem h;have hg:(rT f os)[j]?=some (.int .i64 x,j,D.int (f x)):=by rw [tH,hj];rfl
  refine .inl ⟨j,j,D.int (f x),hg,?_,by rw [if_pos h]⟩;rw [if_pos h];apply List.ext_getElem?;intro i;rw [List.getElem?_set];split
  ·rename_i e;subst e;split
   ·exact hg
   rename_i hlt;rw [List.getElem?_eq_none (by omega)]
  rfl
 refine .inr ⟨fun e he hk=>?_,by rw [if_neg h,aAp],by rw [if_neg h];simp⟩;obtain⟨y,hy,hy2⟩:=Qm he;rw [hy2] at hk;simp at hk;subst hk;exact h hy
def xK(l:List Int)(x:Int):Int:=qB x l+1
theorem Ap {l:List Int} {k:Nat} (h:k<l.length)(hn:l[k]∉l.take k):qB l[k] l=k:=
 qV h (fun x hx=>by simp;rintro rfl;exact hn hx) (by simp)
theorem jF {l:List Int} {x:Int} (h:x∈l):∃k:Nat,∃hk:k<l.length,qB x l=k∧l[k]=x∧x∉l.take k:=by
 unfold qB rS;split
 ·rename_i k hf;rw [List.findIdx?_eq_some_iff_getElem] at hf;obtain⟨hk,he,hn⟩:=hf;refine⟨k,hk,rfl,by simpa using he,fun hx=>?_⟩;obtain⟨j,hj⟩:=List.getElem?_of_mem hx;rw [List.getElem?_take] at hj;split at hj
  ·rename_i hjk;have:=hn j hjk;rw [List.getElem?_eq_getElem (by omega)] at hj;simp at hj;simp [hj] at this
  cases hj
 rename_i hf;rw [List.findIdx?_eq_none_iff] at hf;have:=hf x h;simp at this
theorem Zc {l:List Int} {x:Int} (h:x∉l):qB x l= -1:=mF fun y hy=>by simp;rintro rfl;exact h hy
theorem Pt {l:List Int} {x:Int} (h:x∈l):0<xK l x:=by
 obtain⟨k,hk,h1,_⟩:=jF h;unfold xK;omega
def at_(l:List Int)(x:Int):Int:=if x∈l then xK l x else 0
theorem aEb(l:List Int)(x:Int):(if x∈bF l then xK l x else 0)=at_ l x:=by simp only [at_,kL]
theorem vP {l:List Int} {x:Int} :0<at_ l x↔x∈l:=by
 unfold at_;by_cases h:x∈l
 ·simp [h,Pt h]
 simp [h]
theorem Fc {l:List Int} {k:Nat} (hk:k<l.length):at_ l l[k]=(k:Int)+1↔l[k]∉l.take k:=by
 have hm:l[k]∈l:=List.getElem_mem hk;unfold at_;rw [if_pos hm];constructor
 ·intro h hx;obtain⟨j,hj,h1,h2,h3⟩:=jF hm;unfold xK at h;have:j=k:=by omega
  subst this;exact h3 hx
 intro h;unfold xK;rw [Ap hk h]
theorem Ei {l:List Int} {k:Nat} (hk:k<l.length):bF (l.take (k+1))=if at_ l l[k]=(k:Int)+1 then bF (l.take k)++ [l[k]] else bF (l.take k):=by
 rw [iL l k hk,sF];unfold mV;simp only [kL];by_cases h:l[k]∈l.take k
 ·rw [if_pos h,if_neg (fun e=>((Fc hk).1 e) h)]
 rw [if_neg h,if_pos ((Fc hk).2 h)]
def fF(a b:List Int):List Int:=b.filter fun x=>decide (x∈a)
def fI(a b:List Int):List Int:=(fF a b).map fun x=>at_ a x
def eC(a b:List Int):List Int:=(Lis.ofP (fI a b)).map fun i=>((fF a b)[i]?.getD 0)
theorem As {a b:List Int} {k:Nat} (hk:k<b.length):fF a (b.take (k+1))=if b[k]∈a then fF a (b.take k)++ [b[k]] else fF a (b.take k):=by
 rw [iL b k hk];unfold fF;rw [List.filter_append];by_cases h:b[k]∈a <;> simp [h]
def fC(a b:List Int):List ST:=(a.filter fun x=> !decide (x∈b)).map fun x=>⟨1,x,0⟩
def oO(b now:List Int)(i:Nat):Nat:=if i+1<b.length then(qB (b[i+1]?.getD 0) now).toNat else now.length
def uT(now:List Int)(x:Int):List Int:=now.filter fun y=> !decide (y=x)
def dJ(a now:List Int)(x:Int):List Int:=if x∈a then uT now x else now
def uV(a b os:List Int)(i:Nat)(s:List Int×List ST):List Int×List ST:=
 if b[i]?.getD 0∈os then s else
 (dG (dJ a s.1 (b[i]?.getD 0)) (oO b (dJ a s.1 (b[i]?.getD 0)) i) (b[i]?.getD 0),s.2++ [⟨if b[i]?.getD 0∈a then 3 else 2,b[i]?.getD 0,oO b (dJ a s.1 (b[i]?.getD 0)) i⟩])
def fU(a b os:List Int):Nat→List Int×List ST
 | 0=>(a.filter fun x=>decide (x∈b),fC a b)
 | k+1=>uV a b os (b.length - 1 - k) (fU a b os k)
def eJ(frm to:List Int):List ST:=(fU (bF frm) (bF to) (bF (eC (bF frm) (bF to))) (bF to).length).2
structure InvB(a b os:List Int)(k:Nat)(now:List Int):Prop where
 stay:∀x∈os,x∈now
 done:∀j,b.length - k≤j→j<b.length→(b[j]?.getD 0)∈now
 len:now.length≤a.length+k
theorem Ac {l:List Int} {i:Nat} {x y:Int} :y∈dG l i x↔y=x∨y∈l:=by
 unfold dG;rw [List.mem_append,List.mem_cons];constructor
 ·rintro(h | h | h)
  ·exact .inr (List.mem_of_mem_take h)
  ·exact .inl h
  exact .inr (List.mem_of_mem_drop h)
 rintro(h | h)
 ·exact .inr (.inl h)
 rw [← List.take_append_drop i l,List.mem_append] at h;rcases h with h | h
 ·exact .inl h
 exact .inr (.inr h)
theorem Hu(a now:List Int)(x:Int):(dJ a now x).length≤now.length:=by
 unfold dJ uT;split
 ·exact List.length_filter_le _ _
 exact Nat.le_refl _
theorem uO {a now:List Int} {x y:Int} (h:y∈now)(hne:y≠x):y∈dJ a now x:=by
 unfold dJ uT;split
 ·simp [h,hne]
 exact h
theorem Py {b:List Int} (hb:b.Nodup) {i j:Nat} (hi:i<b.length)(hj:j<b.length)(h:i≠j):b[i]?.getD 0≠b[j]?.getD 0:=by
 rw [List.getElem?_eq_getElem hi,List.getElem?_eq_getElem hj];intro e;exact h ((List.getElem_inj hb).1 (by simpa using e))
theorem Xn {a b os now:List Int} {k:Nat} (hb:b.Nodup)(hk:k<b.length)(h:InvB a b os k now)(hn:¬(b[b.length - 1 - k]?.getD 0)∈os):
  oO b (dJ a now (b[b.length - 1 - k]?.getD 0)) (b.length - 1 - k)≤(dJ a now (b[b.length - 1 - k]?.getD 0)).length∧
  ((b.length - 1 - k:Nat)+1<b.length→qB (b[b.length - 1 - k+1]?.getD 0) (dJ a now (b[b.length - 1 - k]?.getD 0))=(oO b (dJ a now (b[b.length - 1 - k]?.getD 0)) (b.length - 1 - k):Nat)):=by
 unfold oO;split
 ·rename_i hlt;have hm:(b[b.length - 1 - k+1]?.getD 0)∈dJ a now (b[b.length - 1 - k]?.getD 0):=uO (h.done _ (by omega) (by omega)) (Py hb (by omega) (by omega) (by omega));obtain⟨j,hj,h1,_⟩:=jF hm;exact⟨by omega,fun _=>by omega⟩
 exact⟨Nat.le_refl _,fun h=>by omega⟩
theorem InvB.zero {a b os:List Int} (h:∀x∈os,x∈a∧x∈b):InvB a b os 0 (a.filter fun x=>decide (x∈b)):=
 ⟨fun x hx=>by simp [h x hx],fun j h1 h2=>by omega,by simpa using List.length_filter_le _ _⟩
theorem InvB.next {a b os:List Int} {k:Nat} {s:List Int×List ST} (hb:b.Nodup)(hk:k<b.length)(h:InvB a b os k s.1):InvB a b os (k+1) (uV a b os (b.length - 1 - k) s).1:=by
 have hcase:∀j,b.length - (k+1)≤j→j<b.length→j=b.length - 1 - k∨b.length - k≤j:=fun j h1 h2=>by omega
 unfold uV;by_cases hx:b[b.length - 1 - k]?.getD 0∈os
 ·rw [if_pos hx];refine⟨h.stay,fun j h1 h2=>?_,by have:=h.len;omega⟩;rcases hcase j h1 h2 with rfl | hj
  ·exact h.stay _ hx
  exact h.done j hj h2
 rw [if_neg hx];obtain⟨p1,p2⟩:=Xn hb hk h hx;refine⟨fun x hxo=>?_,fun j h1 h2=>?_,?_⟩
 ·exact Ac.2 (.inr (uO (h.stay x hxo) (by rintro rfl;exact hx hxo)))
 ·rcases hcase j h1 h2 with rfl | hj
  ·exact Ac.2 (.inl rfl)
  exact Ac.2 (.inr (uO (h.done j hj h2) (Py hb h2 (by omega) (by omega))))
 have:=Hu a s.1 (b[b.length - 1 - k]?.getD 0);have:=h.len;rw [fM _ _ _ p1];omega
theorem uD {a b os:List Int} (hb:b.Nodup)(h:∀x∈os,x∈a∧x∈b):∀k,k≤b.length→InvB a b os k (fU a b os k).1
 | 0,_=>InvB.zero h
 | k+1,hk=>(uD hb h k (by omega)).next hb (by omega)
theorem Aa {a b os:List Int} :∀k,(fU a b os k).2.length≤a.length+k
 | 0=>by
  show(fC a b).length≤_
  unfold fC;rw [List.length_map];exact List.length_filter_le _ _
 | k+1=>by
  have:=Aa (a:=a) (b:=b) (os:=os) k;show(uV a b os _ _).2.length≤_
  unfold uV;split
  ·omega
  simp;omega
theorem zP {a b:List Int} (h:∀i∈Lis.ofP (fI a b),i<(fF a b).length):∀x∈bF (eC a b),x∈a∧x∈b:=by
 intro x hx;rw [kL] at hx;unfold eC at hx;obtain⟨i,hi,rfl⟩:=List.mem_map.1 hx;have hlt:=h i hi;rw [List.getElem?_eq_getElem hlt];have hm:(fF a b)[i]∈fF a b:=List.getElem_mem hlt;have h2:(fF a b)[i]∈b.filter fun x=>decide (x∈a):=hm;rw [List.mem_filter] at h2;exact⟨by simpa using h2.2,h2.1⟩
theorem sQ {a b os:List Int} {i:Nat} {s:List Int×List ST} (hi:i<b.length)(h:b[i]∈os):uV a b os i s=s:=by
 unfold uV;rw [List.getElem?_eq_getElem hi,Option.getD_some,if_pos h]
theorem nD {a b os:List Int} {i:Nat} {s:List Int×List ST} (hi:i<b.length)(h:¬b[i]∈os):uV a b os i s=(dG (dJ a s.1 b[i]) (oO b (dJ a s.1 b[i]) i) b[i],s.2++ [⟨if b[i]∈a then 3 else 2,b[i],oO b (dJ a s.1 b[i]) i⟩]):=by
 unfold uV;rw [List.getElem?_eq_getElem hi,Option.getD_some,if_neg h]
theorem Ow {a b os now:List Int} {k i:Nat} (hb:b.Nodup)(hk:k<b.length)(h:InvB a b os k now)(hik:b.length - 1 - k=i)(hi:i<b.length)(hn:¬b[i]∈os):
  oO b (dJ a now b[i]) i≤(dJ a now b[i]).length∧(∀h1:i+1<b.length,qB b[i+1] (dJ a now b[i])=(oO b (dJ a now b[i]) i:Nat))∧(¬i+1<b.length→oO b (dJ a now b[i]) i=(dJ a now b[i]).length):=by
 subst hik;have e:b[b.length - 1 - k]?.getD 0=b[b.length - 1 - k]:=by rw [List.getElem?_eq_getElem hi];rfl
 have:=Xn hb hk h (by rw [e];exact hn);rw [e] at this;refine⟨this.1,fun h1=>?_,fun h1=>?_⟩
 ·have h2:=this.2 h1
  rwa [List.getElem?_eq_getElem h1,Option.getD_some] at h2
 unfold oO;rw [if_neg h1]
end Go.Proofs.YtbgfljpnhhdkoaaGreat
