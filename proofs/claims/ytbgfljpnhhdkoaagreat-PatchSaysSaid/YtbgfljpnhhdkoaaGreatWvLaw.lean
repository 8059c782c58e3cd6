import Derived.Test.YtbgfljpnhhdkoaaGreatWkAr4
import Derived.Test.YtbgfljpnhhdkoaaGreatWkWv0
set_option maxHeartbeats 1000000
set_option linter.all false
namespace Go.Proofs.YtbgfljpnhhdkoaaGreat.Lis
def at0(l:List Int)(i:Nat):Int:=l.getD i 0
def below(l:List Int)(ends:List Nat)(x:Int):Nat:=(ends.takeWhile fun e=>decide (at0 l e<x)).length
def pK(l:List Int)(s:List Nat×List Int)(i:Nat):List Nat×List Int:=
 let n:=below l s.1 (at0 l i)
 (if n=s.1.length then s.1++ [i] else if at0 l i<at0 l (s.1.getD n 0)then s.1.set n i else s.1,s.2++ [if n=0 then -1 else(s.1.getD (n - 1) 0:Int)])
def runE(l:List Int):Nat→List Nat×List Int
 | 0=>([], [])
 | i+1=>pK l (runE l i) i
def chain(ahead:List Int):Nat→Int→List Nat
 | 0,_=> []
 | n+1,c=>if c<0 then [] else c.toNat::chain ahead n (ahead.getD c.toNat (-1))
def ofP(l:List Int):List Nat:=((chain (runE l l.length).2 (l.length+1) (match (runE l l.length).1.getLast? with | some e=>(e:Int) | none=> -1)).reverse)
def wK(l:List Int)(lI:List Nat)(i:Nat):Nat→Nat
 | 0=>1
 | k+1=>if at0 l k<at0 l i∧wK l lI i k≤lI.getD k 0 then lI.getD k 0+1 else wK l lI i k
def lI(l:List Int):Nat→List Nat
 | 0=> []
 | i+1=>lI l i++ [wK l (lI l i) i i]
def fO(l:List Int)(i:Nat):Nat:=(lI l (i+1)).getD i 0
theorem tH(l:List Int):∀n,(lI l n).length=n
 | 0=>rfl
 | n+1=>by simp [lI,tH l n]
theorem Jm(l:List Int):∀(n i:Nat),i<n→(lI l n).getD i 0=fO l i
 | n+1,i,h=>by
  by_cases e:i=n
  ·subst e;rfl
  have:i<(lI l n).length:=by rw [tH];omega
  rw [show lI l (n+1)=lI l n++ [wK l (lI l n) n n] from rfl];rw [List.getD_eq_getElem?_getD,List.getElem?_append_left this,← List.getD_eq_getElem?_getD];exact Jm l n i (by omega)
theorem aB2(l:List Int)(i:Nat):fO l i=wK l (lI l i) i i:=by
 unfold fO;rw [show lI l (i+1)=lI l i++ [wK l (lI l i) i i] from rfl,List.getD_eq_getElem?_getD,List.getElem?_append_right (by rw [tH];exact Nat.le_refl _),tH,Nat.sub_self];rfl
theorem Dy(l:List Int)(i:Nat):∀k,k≤i→1≤wK l (lI l i) i k∧(∀j,j<k→at0 l j<at0 l i→fO l j<wK l (lI l i) i k)∧(wK l (lI l i) i k=1∨∃j,j<k∧at0 l j<at0 l i∧fO l j+1=wK l (lI l i) i k)
 | 0,_=>⟨Nat.le_refl _,fun j h=>by omega,.inl rfl⟩
 | k + 1, hk => by
  obtain⟨h1,h2,h3⟩:=Dy l i k (by omega);have hg:=Jm l i k (by omega);simp only [wK,hg];by_cases c:at0 l k<at0 l i∧wK l (lI l i) i k≤fO l k
  ·rw [if_pos c];refine⟨by omega,fun j hj hl=>?_,.inr ⟨k,by omega,c.1,rfl⟩⟩;by_cases e:j=k
   ·subst e;omega
   have:=h2 j (by omega) hl;omega
  rw [if_neg c];refine⟨h1,fun j hj hl=>?_,?_⟩
  ·by_cases e:j=k
   ·subst e;by_cases c2:wK l (lI l i) i j≤fO l j
    ·exact absurd ⟨hl,c2⟩ c
    omega
   exact h2 j (by omega) hl
  rcases h3 with h3 | ⟨j,a,b,d⟩
  ·exact .inl h3
  exact .inr ⟨j,by omega,b,d⟩
theorem Ao(l:List Int)(i:Nat):1≤fO l i∧(∀j,j<i→at0 l j<at0 l i→fO l j<fO l i)∧(fO l i=1∨∃j,j<i∧at0 l j<at0 l i∧fO l j+1=fO l i):=by
 rw [aB2];exact Dy l i i (Nat.le_refl _)
def Dis(l:List Int):Prop:=∀i j,i<l.length→j<l.length→at0 l i=at0 l j→i=j
structure Inv(l:List Int)(i:Nat)(ends:List Nat):Prop where
 lt:∀p e,ends[p]?=some e→e<i∧fO l e=p+1∧∀k,k<i→fO l k=p+1→at0 l e≤at0 l k
 all:∀k,k<i→fO l k≤ends.length
 up:∀p e f,ends[p]?=some e→ends[p+1]?=some f→at0 l e<at0 l f
theorem Inv.mono {l:List Int} {i:Nat} {ends:List Nat} (h:Inv l i ends):∀(d p:Nat) (e f:Nat),ends[p]?=some e→ends[p+d]?=some f→at0 l e≤at0 l f
 | 0,p,e,f,h1,h2=>by rw [Nat.add_zero,h1] at h2;cases h2;exact Int.le_refl _
 | d+1,p,e,f,h1,h2=>by
  have hlt:p+d<ends.length:=by have:=(List.getElem?_eq_some_iff.1 h2).1;omega
  have h3:ends[p+d]?=some ends[p+d]:=List.getElem?_eq_getElem hlt;have:=h.mono d p e _ h1 h3;have:=h.up (p+d) _ f h3 h2;omega
theorem mD {α:Type} (p:α→Bool):∀(l:List α),(∀i a,i<(l.takeWhile p).length→l[i]?=some a→p a=true)∧(∀a,l[(l.takeWhile p).length]?=some a→p a=false)∧(l.takeWhile p).length≤l.length
 | []=>⟨fun i a h=>by simp at h,fun a h=>by simp at h,Nat.le_refl _⟩
 | x :: l => by
  obtain⟨h1,h2,h3⟩:=mD p l;by_cases hx:p x=true
  ·rw [List.takeWhile_cons_of_pos hx];refine⟨fun i a hi ha=>?_,fun a ha=>h2 a (by simpa using ha),by simp;omega⟩;cases i with
   | zero=>simp at ha;subst ha;exact hx
   | succ i=>exact h1 i a (by simpa using hi) (by simpa using ha)
  rw [List.takeWhile_cons_of_neg hx];refine⟨fun i a hi=>by simp at hi,fun a ha=>?_,Nat.zero_le _⟩;simp at ha;subst ha;simpa using hx
theorem Inv.next {l:List Int} {i:Nat} {ends:List Nat} (h:Inv l i ends)(hi:i<l.length)(hd:Dis l):
  let n:=below l ends (at0 l i)
  fO l i=n+1∧n≤ends.length∧Inv l (i+1) (if n=ends.length then ends++ [i] else if at0 l i<at0 l (ends.getD n 0)then ends.set n i else ends):=by
 intro n;obtain⟨t1,t2,t3⟩:=mD (fun e=>decide (at0 l e<at0 l i)) ends;have hn:n=(ends.takeWhile fun e=>decide (at0 l e<at0 l i)).length:=rfl;rw [← hn] at t1 t2 t3;obtain⟨s1,s2,s3⟩:=Ao l i;have hlen:fO l i=n+1:=by
  have hle:fO l i≤n+1:=by
   rcases s3 with s3 | ⟨j,a,b,c⟩
   ·omega
   by_cases hp:fO l j≤n
   ·omega
   exfalso;have hj1:=h.all j a;have hjj:=(Ao l j).1;have hlt:n<ends.length:=by omega
   have hn2:ends[n]?=some ends[n]:=List.getElem?_eq_getElem hlt;have hx:=t2 _ hn2;have hp2:ends[fO l j - 1]?=some (ends[fO l j - 1]'(by omega)):=List.getElem?_eq_getElem (by omega);have hm:=(h.lt _ _ hp2).2.2 j a (by omega);have hmo:=h.mono (fO l j - 1 - n) n _ _ hn2 (by rw [show n+(fO l j - 1 - n)=fO l j - 1 by omega];exact hp2);simp at hx;omega
  by_cases h0:n=0
  ·omega
  have hlt:n - 1<ends.length:=by omega
  have hp:ends[n - 1]?=some ends[n - 1]:=List.getElem?_eq_getElem hlt;have hx:=t1 (n - 1) _ (by omega) hp;obtain⟨e1,e2,_⟩:=h.lt _ _ hp;have:=s2 _ e1 (by simpa using hx);omega
 refine⟨hlen,t3,?_⟩;have hsplit:∀k,k<i+1→k<i∨k=i:=fun k hk=>by omega
 by_cases c1:n=ends.length
 ·rw [if_pos c1];refine⟨fun p e hp=>?_,fun k hk=>?_,fun p e f he hf=>?_⟩
  ·by_cases hpl:p<ends.length
   ·rw [List.getElem?_append_left hpl] at hp;obtain⟨a,b,c⟩:=h.lt p e hp;refine⟨by omega,b,fun k hk hl=>?_⟩;rcases hsplit k hk with hk | rfl
    ·exact c k hk hl
    omega
   rw [List.getElem?_append_right (by omega)] at hp;have hp0:p - ends.length=0:=by
    have:=(List.getElem?_eq_some_iff.1 hp).1;simp at this;omega
   rw [hp0] at hp;simp at hp;subst hp;refine⟨by omega,by omega,fun k hk hl=>?_⟩;rcases hsplit k hk with hk | rfl
   ·have:=h.all k hk;omega
   exact Int.le_refl _
  ·rw [List.length_append,List.length_singleton];rcases hsplit k hk with hk | rfl
   ·have:=h.all k hk;omega
   omega
  by_cases hpl:p+1<ends.length
  ·rw [List.getElem?_append_left (by omega)] at he;rw [List.getElem?_append_left hpl] at hf;exact h.up p e f he hf
  have hfl:=(List.getElem?_eq_some_iff.1 hf).1;simp at hfl;have hpe:p+1=ends.length:=by omega
  rw [List.getElem?_append_left (by omega)] at he;rw [List.getElem?_append_right (by omega),show p+1 - ends.length=0 by omega] at hf;simp at hf;subst hf;have:=t1 p e (by omega) he;simpa using this
 rw [if_neg c1];have hlt:n<ends.length:=by omega
 have hn2:ends[n]?=some ends[n]:=List.getElem?_eq_getElem hlt;have hgd:ends.getD n 0=ends[n]:=by rw [List.getD_eq_getElem?_getD,hn2];rfl
 have hx:=t2 _ hn2;have hx1:at0 l i≤at0 l ends[n]:=by simpa using hx
 obtain⟨e1,e2,e3⟩:=h.lt _ _ hn2;have hne:at0 l i≠at0 l ends[n]:=fun e=>by
  have:=hd i ends[n] hi (by omega) e;omega
 have c2:at0 l i<at0 l (ends.getD n 0):=by rw [hgd];omega
 rw [if_pos c2];refine⟨fun p e hp=>?_,fun k hk=>?_,fun p e f he hf=>?_⟩
 ·rw [List.getElem?_set] at hp;by_cases hpn:n=p
  ·subst hpn;rw [if_pos rfl,if_pos hlt] at hp;cases hp;refine⟨by omega,hlen,fun k hk hl=>?_⟩;rcases hsplit k hk with hk | rfl
   ·have:=e3 k hk hl;omega
   exact Int.le_refl _
  rw [if_neg hpn] at hp;obtain⟨a,b,c⟩:=h.lt p e hp;refine⟨by omega,b,fun k hk hl=>?_⟩;rcases hsplit k hk with hk | rfl
  ·exact c k hk hl
  omega
 ·rw [List.length_set];rcases hsplit k hk with hk | rfl
  ·exact h.all k hk
  omega
 rw [List.getElem?_set] at he hf;by_cases h1:n=p
 ·subst h1;rw [if_pos rfl,if_pos hlt] at he;rw [if_neg (by omega)] at hf;cases he;have:=h.up n _ f hn2 hf;omega
 rw [if_neg h1] at he;by_cases h2:n=p+1
 ·rw [if_pos h2,if_pos hlt] at hf;cases hf;have:=t1 p e (by omega) he;simpa using this
 rw [if_neg h2] at hf;exact h.up p e f he hf
theorem Og(l:List Int)(hd:Dis l):∀i,i≤l.length→Inv l i (runE l i).1∧(runE l i).2.length=i∧∀k,k<i→(if fO l k=1 then(runE l i).2.getD k (-1)= -1 else ∃j,(runE l i).2.getD k (-1)=(j:Nat)∧j<k∧fO l j+1=fO l k∧at0 l j<at0 l k∧∀m,m<k→fO l m+1=fO l k→at0 l j≤at0 l m)
 | 0,_=>⟨⟨fun p e h=>by simp [runE] at h,fun k h=>by omega,fun p e f h=>by simp [runE] at h⟩,rfl,fun k h=>by omega⟩
 | i + 1, hi => by
  obtain⟨h1,h2,h3⟩:=Og l hd i (by omega);obtain⟨a1,a2,a3⟩:=h1.next (by omega) hd;refine⟨a3,by simp [runE,pK,h2],fun k hk=>?_⟩;have hget:∀x:Int,((runE l i).2++ [x]).getD k (-1)=if k<i then(runE l i).2.getD k (-1)else x:=fun x=>by
   by_cases e:k<i
   ·rw [if_pos e,List.getD_eq_getElem?_getD,List.getElem?_append_left (by omega),← List.getD_eq_getElem?_getD]
   rw [if_neg e,List.getD_eq_getElem?_getD,List.getElem?_append_right (by omega),h2,show k - i=0 by omega];rfl
  simp only [runE,pK];rw [hget];by_cases e:k<i
  ·rw [if_pos e];exact h3 k e
  rw [if_neg e];obtain rfl:k=i:=by omega
  rw [a1];by_cases h0:below l (runE l k).1 (at0 l k)=0
  ·rw [if_pos (by omega),if_pos h0]
  rw [if_neg (by omega),if_neg h0];have hlt:below l (runE l k).1 (at0 l k) - 1<(runE l k).1.length:=by omega
  have hp:(runE l k).1[below l (runE l k).1 (at0 l k) - 1]?=some ((runE l k).1[below l (runE l k).1 (at0 l k) - 1]):=List.getElem?_eq_getElem hlt;obtain⟨t1,_,_⟩:=mD (fun e=>decide (at0 l e<at0 l k)) (runE l k).1;have hx:=t1 (below l (runE l k).1 (at0 l k) - 1) _ (by unfold below at h0 ⊢;omega) hp;obtain⟨e1,e2,e3⟩:=h1.lt _ _ hp;refine⟨_,by rw [List.getD_eq_getElem?_getD,hp];rfl,e1,by omega,by simpa using hx,fun m hm hl=>e3 m hm (by omega)⟩
end Go.Proofs.YtbgfljpnhhdkoaaGreat.Lis
namespace Go.Proofs.YtbgfljpnhhdkoaaGreat
open Go Go.Vm
def mV(os:List Int)(x:Int):List Int:=if x∈os then os else os++ [x]
def bW(l:List Int):List Int:=l.foldl mV []
theorem sF(l:List Int)(x:Int):bW (l++ [x])=mV (bW l) x:=by simp [bW]
theorem iN(l:List Int)(k:Nat)(h:k<l.length):l.take (k+1)=l.take k++ [l[k]]:=by
 rw [List.take_succ_eq_append_getElem h]
theorem aCz {os:List Int} {x y:Int} :y∈mV os x↔y∈os∨y=x:=by
 unfold mV;split
 ·constructor
  ·exact .inl
  rintro(h | rfl)
  ·exact h
  assumption
 simp
theorem Du:∀(l os:List Int) (y:Int),y∈l.foldl mV os↔y∈os∨y∈l
 | [],os,y=>by simp
 | x::l,os,y=>by
  rw [List.foldl_cons,Du l,aCz];simp [or_assoc]
theorem qV {l:List Int} {y:Int} :y∈bW l↔y∈l:=by simp [bW,Du]
theorem Nl {os:List Int} {x:Int} (h:os.Nodup):(mV os x).Nodup:=by
 unfold mV;split
 ·exact h
 rename_i hx;rw [List.nodup_append];exact⟨h,by simp,fun a ha b hb=>by simp at hb;subst hb;rintro rfl;exact hx ha⟩
theorem wN:∀(l os:List Int),os.Nodup→(l.foldl mV os).Nodup
 | [],os,h=>h
 | x::l,os,h=>wN l _ (Nl h)
theorem pO(l:List Int):(bW l).Nodup:=wN l [] (by simp)
theorem wP:∀(l os:List Int),(os++l).Nodup→l.foldl mV os=os++l
 | [],os,_=>by simp
 | x :: l, os, h => by
  have hx:x∉os:=fun hx=>by
   rw [List.nodup_append] at h;exact h.2.2 x hx x (by simp) rfl
  rw [List.foldl_cons,show mV os x=os++ [x] by simp [mV,hx],wP l _ (by simpa using h)];simp
theorem Ho {l:List Int} (h:l.Nodup):bW l=l:=by simpa [bW] using wP l [] (by simpa using h)
theorem aBn(os:List Int)(x:Int):(mV os x).length≤os.length+1:=by unfold mV;split <;> simp
theorem Cj:∀(l os:List Int),(l.foldl mV os).length≤os.length+l.length
 | [],os=>by simp
 | x::l,os=>by
  have h:=Cj l (mV os x);have:=aBn os x;simp only [List.foldl_cons,List.length_cons];omega
theorem nD(l:List Int):(bW l).length≤l.length:=by simpa [bW] using Cj l []
def rM(f:Int→Int)(os:List Int):List (Value×Nat×D):=os.zipIdx.map fun p=>(.int .i64 p.1,p.2,D.int (f p.1))
theorem uG(f:Int→Int)(os:List Int)(j:Nat):(rM f os)[j]?=(os[j]?).map fun x=>(.int .i64 x,j,D.int (f x)):=by
 simp [rM,List.getElem?_map,List.getElem?_zipIdx];rfl
theorem aCe(f:Int→Int)(os:List Int)(x:Int):rM f (os++ [x])=rM f os++ [(.int .i64 x,os.length,D.int (f x))]:=by
 simp [rM,List.zipIdx_append]
theorem Ov {f:Int→Int} {os:List Int} {e:Value×Nat×D} (h:e∈rM f os):∃x∈os,e.1= .int .i64 x:=by
 obtain⟨j,hj⟩:=List.getElem?_of_mem h;rw [uG] at hj;cases hx:os[j]? with
 | none=>rw [hx] at hj;cases hj
 | some x=>rw [hx] at hj;simp at hj;exact⟨x,List.mem_of_getElem? hx,by rw [← hj]⟩
theorem Wq(f:Int→Int)(os:List Int)(x:Int):vF (rM f os) (.int .i64 x) (D.int 0) (D.int (if x∈os then f x else 0)) (decide (x∈os)):=by
 unfold vF;by_cases h:x∈os
 ·obtain⟨j,hj⟩:=List.getElem?_of_mem h;exact .inl ⟨by simp [h],j,j,by rw [uG,hj];simp [h]⟩
 refine .inr ⟨by simp [h],by simp [h],fun e he hk=>?_⟩;obtain⟨y,hy,hy2⟩:=Ov he;rw [hy2] at hk;simp at hk;subst hk;exact h hy
theorem Kl(f:Int→Int)(os:List Int)(x v:Int)(hv:v=f x):Rw (rM f os) os.length (.int .i64 x) (D.int v) (rM f (mV os x)) (mV os x).length:=by
 subst hv;unfold Rw mV;by_cases h:x∈os
 ·obtain⟨j,hj⟩:=List.getElem?_of_mem h;have hg:(rM f os)[j]?=some (.int .i64 x,j,D.int (f x)):=by rw [uG,hj];rfl
  refine .inl ⟨j,j,D.int (f x),hg,?_,by rw [if_pos h]⟩;rw [if_pos h];apply List.ext_getElem?;intro i;rw [List.getElem?_set];split
  ·rename_i e;subst e;split
   ·exact hg
   rename_i hlt;rw [List.getElem?_eq_none (by omega)]
  rfl
 refine .inr ⟨fun e he hk=>?_,by rw [if_neg h,aCe],by rw [if_neg h];simp⟩;obtain⟨y,hy,hy2⟩:=Ov he;rw [hy2] at hk;simp at hk;subst hk;exact h hy
def xQ(l:List Int)(x:Int):Int:=yH x l+1
theorem Ac {l:List Int} {k:Nat} (h:k<l.length)(hn:l[k]∉l.take k):yH l[k] l=k:=
 oO h (fun x hx=>by simp;rintro rfl;exact hn hx) (by simp)
theorem qF {l:List Int} {x:Int} (h:x∈l):∃k:Nat,∃hk:k<l.length,yH x l=k∧l[k]=x∧x∉l.take k:=by
 unfold yH rJ;split
 ·rename_i k hf;rw [List.findIdx?_eq_some_iff_getElem] at hf;obtain⟨hk,he,hn⟩:=hf;refine⟨k,hk,rfl,by simpa using he,fun hx=>?_⟩;obtain⟨j,hj⟩:=List.getElem?_of_mem hx;rw [List.getElem?_take] at hj;split at hj
  ·rename_i hjk;have:=hn j hjk;rw [List.getElem?_eq_getElem (by omega)] at hj;simp at hj;simp [hj] at this
  cases hj
 rename_i hf;rw [List.findIdx?_eq_none_iff] at hf;have:=hf x h;simp at this
theorem Oz {l:List Int} {x:Int} (h:x∈l):0<xQ l x:=by
 obtain⟨k,hk,h1,_⟩:=qF h;unfold xQ;omega
def at_(l:List Int)(x:Int):Int:=if x∈l then xQ l x else 0
theorem aDl(l:List Int)(x:Int):(if x∈bW l then xQ l x else 0)=at_ l x:=by simp only [at_,qV]
theorem vE {l:List Int} {x:Int} :0<at_ l x↔x∈l:=by
 unfold at_;by_cases h:x∈l
 ·simp [h,Oz h]
 simp [h]
theorem Ph {l:List Int} {k:Nat} (hk:k<l.length):at_ l l[k]=(k:Int)+1↔l[k]∉l.take k:=by
 have hm:l[k]∈l:=List.getElem_mem hk;unfold at_;rw [if_pos hm];constructor
 ·intro h hx;obtain⟨j,hj,h1,h2,h3⟩:=qF hm;unfold xQ at h;have:j=k:=by omega
  subst this;exact h3 hx
 intro h;unfold xQ;rw [Ac hk h]
theorem Cl {l:List Int} {k:Nat} (hk:k<l.length):bW (l.take (k+1))=if at_ l l[k]=(k:Int)+1 then bW (l.take k)++ [l[k]] else bW (l.take k):=by
 rw [iN l k hk,sF];unfold mV;simp only [qV];by_cases h:l[k]∈l.take k
 ·rw [if_pos h,if_neg (fun e=>((Ph hk).1 e) h)]
 rw [if_neg h,if_pos ((Ph hk).2 h)]
def gF(a b:List Int):List Int:=b.filter fun x=>decide (x∈a)
def fT(a b:List Int):List Int:=(gF a b).map fun x=>at_ a x
def iK(a b:List Int):List Int:=(Lis.ofP (fT a b)).map fun i=>((gF a b)[i]?.getD 0)
theorem Bi {a b:List Int} {k:Nat} (hk:k<b.length):gF a (b.take (k+1))=if b[k]∈a then gF a (b.take k)++ [b[k]] else gF a (b.take k):=by
 rw [iN b k hk];unfold gF;rw [List.filter_append];by_cases h:b[k]∈a <;> simp [h]
def gK(a b:List Int):List ST:=(a.filter fun x=> !decide (x∈b)).map fun x=>⟨1,x,0⟩
def pA(b now:List Int)(i:Nat):Nat:=if i+1<b.length then(yH (b[i+1]?.getD 0) now).toNat else now.length
def zG(now:List Int)(x:Int):List Int:=now.filter fun y=> !decide (y=x)
def dP(a now:List Int)(x:Int):List Int:=if x∈a then zG now x else now
def Bk(a b os:List Int)(i:Nat)(s:List Int×List ST):List Int×List ST:=
 if b[i]?.getD 0∈os then s else
 (dK (dP a s.1 (b[i]?.getD 0)) (pA b (dP a s.1 (b[i]?.getD 0)) i) (b[i]?.getD 0),s.2++ [⟨if b[i]?.getD 0∈a then 3 else 2,b[i]?.getD 0,pA b (dP a s.1 (b[i]?.getD 0)) i⟩])
def jE(a b os:List Int):Nat→List Int×List ST
 | 0=>(a.filter fun x=>decide (x∈b),gK a b)
 | k+1=>Bk a b os (b.length - 1 - k) (jE a b os k)
def fZ(frm to:List Int):List ST:=(jE (bW frm) (bW to) (bW (iK (bW frm) (bW to))) (bW to).length).2
structure InvB(a b os:List Int)(k:Nat)(now:List Int):Prop where
 stay:∀x∈os,x∈now
 done:∀j,b.length - k≤j→j<b.length→(b[j]?.getD 0)∈now
 len:now.length≤a.length+k
theorem Av {l:List Int} {i:Nat} {x y:Int} :y∈dK l i x↔y=x∨y∈l:=by
 unfold dK;rw [List.mem_append,List.mem_cons];constructor
 ·rintro(h | h | h)
  ·exact .inr (List.mem_of_mem_take h)
  ·exact .inl h
  exact .inr (List.mem_of_mem_drop h)
 rintro(h | h)
 ·exact .inr (.inl h)
 rw [← List.take_append_drop i l,List.mem_append] at h;rcases h with h | h
 ·exact .inl h
 exact .inr (.inr h)
theorem Ib(a now:List Int)(x:Int):(dP a now x).length≤now.length:=by
 unfold dP zG;split
 ·exact List.length_filter_le _ _
 exact Nat.le_refl _
theorem uD {a now:List Int} {x y:Int} (h:y∈now)(hne:y≠x):y∈dP a now x:=by
 unfold dP zG;split
 ·simp [h,hne]
 exact h
theorem Qe {b:List Int} (hb:b.Nodup) {i j:Nat} (hi:i<b.length)(hj:j<b.length)(h:i≠j):b[i]?.getD 0≠b[j]?.getD 0:=by
 rw [List.getElem?_eq_getElem hi,List.getElem?_eq_getElem hj];intro e;exact h ((List.getElem_inj hb).1 (by simpa using e))
theorem aBp {a b os now:List Int} {k:Nat} (hb:b.Nodup)(hk:k<b.length)(h:InvB a b os k now)(hn:¬(b[b.length - 1 - k]?.getD 0)∈os):
  pA b (dP a now (b[b.length - 1 - k]?.getD 0)) (b.length - 1 - k)≤(dP a now (b[b.length - 1 - k]?.getD 0)).length∧
  ((b.length - 1 - k:Nat)+1<b.length→yH (b[b.length - 1 - k+1]?.getD 0) (dP a now (b[b.length - 1 - k]?.getD 0))=(pA b (dP a now (b[b.length - 1 - k]?.getD 0)) (b.length - 1 - k):Nat)):=by
 unfold pA;split
 ·rename_i hlt;have hm:(b[b.length - 1 - k+1]?.getD 0)∈dP a now (b[b.length - 1 - k]?.getD 0):=uD (h.done _ (by omega) (by omega)) (Qe hb (by omega) (by omega) (by omega));obtain⟨j,hj,h1,_⟩:=qF hm;exact⟨by omega,fun _=>by omega⟩
 exact⟨Nat.le_refl _,fun h=>by omega⟩
theorem InvB.zero {a b os:List Int} (h:∀x∈os,x∈a∧x∈b):InvB a b os 0 (a.filter fun x=>decide (x∈b)):=
 ⟨fun x hx=>by simp [h x hx],fun j h1 h2=>by omega,by simpa using List.length_filter_le _ _⟩
theorem InvB.next {a b os:List Int} {k:Nat} {s:List Int×List ST} (hb:b.Nodup)(hk:k<b.length)(h:InvB a b os k s.1):InvB a b os (k+1) (Bk a b os (b.length - 1 - k) s).1:=by
 have hcase:∀j,b.length - (k+1)≤j→j<b.length→j=b.length - 1 - k∨b.length - k≤j:=fun j h1 h2=>by omega
 unfold Bk;by_cases hx:b[b.length - 1 - k]?.getD 0∈os
 ·rw [if_pos hx];refine⟨h.stay,fun j h1 h2=>?_,by have:=h.len;omega⟩;rcases hcase j h1 h2 with rfl | hj
  ·exact h.stay _ hx
  exact h.done j hj h2
 rw [if_neg hx];obtain⟨p1,p2⟩:=aBp hb hk h hx;refine⟨fun x hxo=>?_,fun j h1 h2=>?_,?_⟩
 ·exact Av.2 (.inr (uD (h.stay x hxo) (by rintro rfl;exact hx hxo)))
 ·rcases hcase j h1 h2 with rfl | hj
  ·exact Av.2 (.inl rfl)
  exact Av.2 (.inr (uD (h.done j hj h2) (Qe hb h2 (by omega) (by omega))))
 have:=Ib a s.1 (b[b.length - 1 - k]?.getD 0);have:=h.len;rw [fE _ _ _ p1];omega
theorem zW {a b os:List Int} (hb:b.Nodup)(h:∀x∈os,x∈a∧x∈b):∀k,k≤b.length→InvB a b os k (jE a b os k).1
 | 0,_=>InvB.zero h
 | k+1,hk=>(zW hb h k (by omega)).next hb (by omega)
theorem yX {a b os:List Int} :∀k,(jE a b os k).2.length≤a.length+k
 | 0=>by
  show(gK a b).length≤_
  unfold gK;rw [List.length_map];exact List.length_filter_le _ _
 | k+1=>by
  have:=yX (a:=a) (b:=b) (os:=os) k;show(Bk a b os _ _).2.length≤_
  unfold Bk;split
  ·omega
  simp;omega
theorem Jx {a b:List Int} (h:∀i∈Lis.ofP (fT a b),i<(gF a b).length):∀x∈bW (iK a b),x∈a∧x∈b:=by
 intro x hx;rw [qV] at hx;unfold iK at hx;obtain⟨i,hi,rfl⟩:=List.mem_map.1 hx;have hlt:=h i hi;rw [List.getElem?_eq_getElem hlt];have hm:(gF a b)[i]∈gF a b:=List.getElem_mem hlt;have h2:(gF a b)[i]∈b.filter fun x=>decide (x∈a):=hm;rw [List.mem_filter] at h2;exact⟨by simpa using h2.2,h2.1⟩
theorem aAh {a b os:List Int} {i:Nat} {s:List Int×List ST} (hi:i<b.length)(h:b[i]∈os):Bk a b os i s=s:=by
 unfold Bk;rw [List.getElem?_eq_getElem hi,Option.getD_some,if_pos h]
theorem tZ {a b os:List Int} {i:Nat} {s:List Int×List ST} (hi:i<b.length)(h:¬b[i]∈os):Bk a b os i s=(dK (dP a s.1 b[i]) (pA b (dP a s.1 b[i]) i) b[i],s.2++ [⟨if b[i]∈a then 3 else 2,b[i],pA b (dP a s.1 b[i]) i⟩]):=by
 unfold Bk;rw [List.getElem?_eq_getElem hi,Option.getD_some,if_neg h]
theorem aAi {a b os now:List Int} {k i:Nat} (hb:b.Nodup)(hk:k<b.length)(h:InvB a b os k now)(hik:b.length - 1 - k=i)(hi:i<b.length)(hn:¬b[i]∈os):
  pA b (dP a now b[i]) i≤(dP a now b[i]).length∧(∀h1:i+1<b.length,yH b[i+1] (dP a now b[i])=(pA b (dP a now b[i]) i:Nat))∧(¬i+1<b.length→pA b (dP a now b[i]) i=(dP a now b[i]).length):=by
 subst hik;have e:b[b.length - 1 - k]?.getD 0=b[b.length - 1 - k]:=by rw [List.getElem?_eq_getElem hi];rfl
 have:=aBp hb hk h (by rw [e];exact hn);rw [e] at this;refine⟨this.1,fun h1=>?_,fun h1=>?_⟩
 ·have h2:=this.2 h1
  rwa [List.getElem?_eq_getElem h1,Option.getD_some] at h2
 unfold pA;rw [if_neg h1]
end Go.Proofs.YtbgfljpnhhdkoaaGreat
