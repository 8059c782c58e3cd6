import Derived.Test.YtbgfljpnhhdkoaaGreatVmTab
import Derived.Test.YtbgfljpnhhdkoaaGreatVmZ
import Derived.Test.YtbgfljpnhhdkoaaGreatWkAr4
set_option linter.all false
set_option maxHeartbeats 8000000
set_option maxRecDepth 20000
namespace Go.Proofs.YtbgfljpnhhdkoaaGreat
open Go Go.Vm
structure ST where
 kind:Int
 ID:Int
 at_:Int
 deriving DecidableEq
@[simp] abbrev aHf(s:ST):D:= .agg [.v (.int .i64 s.kind),.v (.int .i64 s.ID),.v (.int .i64 s.at_)]
end Go.Proofs.YtbgfljpnhhdkoaaGreat
namespace Go.Proofs.YtbgfljpnhhdkoaaGreat.Lis
variable {ends:List Nat}{l:List Int}
def at0(l:List Int)(i:Nat):Int:=l.getD i 0
def below(l:List Int)(ends:List Nat)(x:Int):Nat:=(ends.takeWhile fun e=>decide (at0 l e<x)).length
def yL(l:List Int)(s:List Nat×List Int)(i:Nat):List Nat×List Int:=
 let n:=below l s.1 (at0 l i)
 (if n=s.1.length then s.1++ [i] else if at0 l i<at0 l (s.1.getD n 0)then s.1.set n i else s.1,s.2++ [if n=0 then -1 else(s.1.getD (n - 1) 0:Int)])
def runE(l:List Int):Nat->List Nat×List Int
 | 0=>([], [])
 | i+1=>yL l (runE l i) i
def chain(ahead:List Int):Nat->Int->List Nat
 | 0,_=> []
 | n+1,c=>if c<0 then [] else c.toNat::chain ahead n (ahead.getD c.toNat (-1))
def ofP(l:List Int):List Nat:=((chain (runE l l.length).2 (l.length+1) (match (runE l l.length).1.getLast? with | some e=>(e:Int) | none=> -1)).reverse)
def Fy(l:List Int)(rU:List Nat)(i:Nat):Nat->Nat
 | 0=>1
 | k+1=>if at0 l k<at0 l i/\Fy l rU i k<=rU.getD k 0 then rU.getD k 0+1 else Fy l rU i k
def rU(l:List Int):Nat->List Nat
 | 0=> []
 | i+1=>rU l i++ [Fy l (rU l i) i i]
def kH(l:List Int)(i:Nat):Nat:=(rU l (i+1)).getD i 0
theorem Dv(l:List Int):∀n,(rU l n).length=n
 | 0=>rfl
 | n+1=>by simp [rU,Dv l n]
theorem Xa(l:List Int):∀(n i:Nat),i<n->(rU l n).getD i 0=kH l i
 | n+1,i,h=>by
  by_cases e:i=n
  .subst e;rfl
  have:i<(rU l n).length:=by rw [Dv];omega
  rw [show rU l (n+1)=rU l n++ [Fy l (rU l n) n n] from rfl];rw [fA,aW this,<- fA];exact Xa l n i (by omega)
theorem aKi(l:List Int)(i:Nat):kH l i=Fy l (rU l i) i i:=by
 unfold kH;rw [show rU l (i+1)=rU l i++ [Fy l (rU l i) i i] from rfl,fA,bQ (by rw [Dv];exact aV _),Dv,mS];rfl
theorem Qn(l:List Int)(i:Nat):∀k,k<=i->1<=Fy l (rU l i) i k/\(∀j,j<k->at0 l j<at0 l i->kH l j<Fy l (rU l i) i k)/\(Fy l (rU l i) i k=1\/∃j,j<k/\at0 l j<at0 l i/\kH l j+1=Fy l (rU l i) i k)
 | 0,_=>⟨aV _,fun j h=>by omega,.inl rfl⟩
 | k + 1, hk => by
  obtain⟨h1,h2,h3⟩:=Qn l i k (by omega);have hg:=Xa l i k (by omega);simp only [Fy,hg];by_cases c:at0 l k<at0 l i/\Fy l (rU l i) i k<=kH l k
  .rw [aI c];refine⟨by omega,fun j hj hl=>?_,.inr ⟨k,by omega,c.1,rfl⟩⟩;by_cases e:j=k
   .subst e;omega
   have:=h2 j (by omega) hl;omega
  rw [aC c];refine⟨h1,fun j hj hl=>?_,?_⟩
  .by_cases e:j=k
   .subst e;by_cases c2:Fy l (rU l i) i j<=kH l j
    .exact absurd ⟨hl,c2⟩ c
    omega
   exact h2 j (by omega) hl
  rcases h3 with h3 | ⟨j,a,b,d⟩
  .exact .inl h3
  exact .inr ⟨j,by omega,b,d⟩
theorem Km(l:List Int)(i:Nat):1<=kH l i/\(∀j,j<i->at0 l j<at0 l i->kH l j<kH l i)/\(kH l i=1\/∃j,j<i/\at0 l j<at0 l i/\kH l j+1=kH l i):=by
 rw [aKi];exact Qn l i i (aV _)
def Dis(l:List Int):Prop:=∀i j,i<l.length->j<l.length->at0 l i=at0 l j->i=j
structure Inv(l:List Int)(i:Nat)(ends:List Nat):Prop where
 lt:∀p e,ends[p]?=some e->e<i/\kH l e=p+1/\∀k,k<i->kH l k=p+1->at0 l e<=at0 l k
 all:∀k,k<i->kH l k<=ends.length
 up:∀p e f,ends[p]?=some e->ends[p+1]?=some f->at0 l e<at0 l f
theorem Inv.mono {i:Nat} (h:Inv l i ends):∀(d p:Nat) (e f:Nat),ends[p]?=some e->ends[p+d]?=some f->at0 l e<=at0 l f
 | 0,p,e,f,h1,h2=>by rw [jP,h1] at h2;cases h2;exact oA _
 | d+1,p,e,f,h1,h2=>by
  have hlt:p+d<ends.length:=by have:=(aM.1 h2).1;omega
  have h3:ends[p+d]?=some ends[p+d]:=aQ hlt;have:=h.mono d p e _ h1 h3;have:=h.up (p+d) _ f h3 h2;omega
theorem tA {α:Type} (p:α->Bool):∀(l:List α),(∀i a,i<(l.takeWhile p).length->l[i]?=some a->p a=true)/\(∀a,l[(l.takeWhile p).length]?=some a->p a=false)/\(l.takeWhile p).length<=l.length
 | []=>⟨fun i a h=>by simp at h,fun a h=>by simp at h,aV _⟩
 | x :: l => by
  obtain⟨h1,h2,h3⟩:=tA p l;by_cases hx:p x=true
  .rw [List.takeWhile_cons_of_pos hx];refine⟨fun i a hi ha=>?_,fun a ha=>h2 a (by simpa using ha),by simp;omega⟩;cases i with
   | zero=>simp at ha;subst ha;exact hx
   | succ i=>exact h1 i a (by simpa using hi) (by simpa using ha)
  rw [List.takeWhile_cons_of_neg hx];refine⟨fun i a hi=>by simp at hi,fun a ha=>?_,gD _⟩;simp at ha;subst ha;simpa using hx
theorem Inv.next {i:Nat} (h:Inv l i ends)(hi:i<l.length)(hd:Dis l):
  let n:=below l ends (at0 l i)
  kH l i=n+1/\n<=ends.length/\Inv l (i+1) (if n=ends.length then ends++ [i] else if at0 l i<at0 l (ends.getD n 0)then ends.set n i else ends):=by
 intro n;obtain⟨t1,t2,t3⟩:=tA (fun e=>decide (at0 l e<at0 l i)) ends;have hn:n=(ends.takeWhile fun e=>decide (at0 l e<at0 l i)).length:=rfl;rw [<- hn] at t1 t2 t3;obtain⟨s1,s2,s3⟩:=Km l i;have hlen:kH l i=n+1:=by
  have hle:kH l i<=n+1:=by
   rcases s3 with s3 | ⟨j,a,b,c⟩
   .omega
   by_cases hp:kH l j<=n
   .omega
   exfalso;have hj1:=h.all j a;have hjj:=(Km l j).1;have hlt:n<ends.length:=by omega
   have hn2:ends[n]?=some ends[n]:=aQ hlt;have hx:=t2 _ hn2;have hp2:ends[kH l j - 1]?=some (ends[kH l j - 1]'(by omega)):=aQ (by omega);have hm:=(h.lt _ _ hp2).2.2 j a (by omega);have hmo:=h.mono (kH l j - 1 - n) n _ _ hn2 (by rw [show n+(kH l j - 1 - n)=kH l j - 1 by omega];exact hp2);simp at hx;omega
  by_cases h0:n=0
  .omega
  have hlt:n - 1<ends.length:=by omega
  have hp:ends[n - 1]?=some ends[n - 1]:=aQ hlt;have hx:=t1 (n - 1) _ (by omega) hp;obtain⟨e1,e2,_⟩:=h.lt _ _ hp;have:=s2 _ e1 (by simpa using hx);omega
 refine⟨hlen,t3,?_⟩;have hsplit:∀k,k<i+1->k<i\/k=i:=fun k hk=>by omega
 by_cases c1:n=ends.length
 .rw [aI c1];refine⟨fun p e hp=>?_,fun k hk=>?_,fun p e f he hf=>?_⟩
  .by_cases hpl:p<ends.length
   .rw [aW hpl] at hp;obtain⟨a,b,c⟩:=h.lt p e hp;refine⟨by omega,b,fun k hk hl=>?_⟩;rcases hsplit k hk with hk | rfl
    .exact c k hk hl
    omega
   rw [bQ (by omega)] at hp;have hp0:p - ends.length=0:=by
    have:=(aM.1 hp).1;simp at this;omega
   rw [hp0] at hp;simp at hp;subst hp;refine⟨by omega,by omega,fun k hk hl=>?_⟩;rcases hsplit k hk with hk | rfl
   .have:=h.all k hk;omega
   exact oA _
  .rw [bB,vR];rcases hsplit k hk with hk | rfl
   .have:=h.all k hk;omega
   omega
  by_cases hpl:p+1<ends.length
  .rw [aW (by omega)] at he;rw [aW hpl] at hf;exact h.up p e f he hf
  have hfl:=(aM.1 hf).1;simp at hfl;have hpe:p+1=ends.length:=by omega
  rw [aW (by omega)] at he;rw [bQ (by omega),show p+1 - ends.length=0 by omega] at hf;simp at hf;subst hf;have:=t1 p e (by omega) he;simpa using this
 rw [aC c1];have hlt:n<ends.length:=by omega
 have hn2:ends[n]?=some ends[n]:=aQ hlt;have hgd:ends.getD n 0=ends[n]:=by rw [fA,hn2];rfl
 have hx:=t2 _ hn2;have hx1:at0 l i<=at0 l ends[n]:=by simpa using hx
 obtain⟨e1,e2,e3⟩:=h.lt _ _ hn2;have hne:at0 l i≠at0 l ends[n]:=fun e=>by
  have:=hd i ends[n] hi (by omega) e;omega
 have c2:at0 l i<at0 l (ends.getD n 0):=by rw [hgd];omega
 rw [aI c2];refine⟨fun p e hp=>?_,fun k hk=>?_,fun p e f he hf=>?_⟩
 .rw [bP] at hp;by_cases hpn:n=p
  .subst hpn;rw [aI rfl,aI hlt] at hp;cases hp;refine⟨by omega,hlen,fun k hk hl=>?_⟩;rcases hsplit k hk with hk | rfl
   .have:=e3 k hk hl;omega
   exact oA _
  rw [aC hpn] at hp;obtain⟨a,b,c⟩:=h.lt p e hp;refine⟨by omega,b,fun k hk hl=>?_⟩;rcases hsplit k hk with hk | rfl
  .exact c k hk hl
  omega
 .rw [cV];rcases hsplit k hk with hk | rfl
  .exact h.all k hk
  omega
 rw [bP] at he hf;by_cases h1:n=p
 .subst h1;rw [aI rfl,aI hlt] at he;rw [aC (by omega)] at hf;cases he;have:=h.up n _ f hn2 hf;omega
 rw [aC h1] at he;by_cases h2:n=p+1
 .rw [aI h2,aI hlt] at hf;cases hf;have:=t1 p e (by omega) he;simpa using this
 rw [aC h2] at hf;exact h.up p e f he hf
theorem aDa(l:List Int)(hd:Dis l):∀i,i<=l.length->Inv l i (runE l i).1/\(runE l i).2.length=i/\∀k,k<i->(if kH l k=1 then(runE l i).2.getD k (-1)= -1 else ∃j,(runE l i).2.getD k (-1)=(j:Nat)/\j<k/\kH l j+1=kH l k/\at0 l j<at0 l k/\∀m,m<k->kH l m+1=kH l k->at0 l j<=at0 l m)
 | 0,_=>⟨⟨fun p e h=>by simp [runE] at h,fun k h=>by omega,fun p e f h=>by simp [runE] at h⟩,rfl,fun k h=>by omega⟩
 | i + 1, hi => by
  obtain⟨h1,h2,h3⟩:=aDa l hd i (by omega);obtain⟨a1,a2,a3⟩:=h1.next (by omega) hd;refine⟨a3,by simp [runE,yL,h2],fun k hk=>?_⟩;have hget:∀x:Int,((runE l i).2++ [x]).getD k (-1)=if k<i then(runE l i).2.getD k (-1)else x:=fun x=>by
   by_cases e:k<i
   .rw [aI e,fA,aW (by omega),<- fA]
   rw [aC e,fA,bQ (by omega),h2,show k - i=0 by omega];rfl
  simp only [runE,yL];rw [hget];by_cases e:k<i
  .rw [aI e];exact h3 k e
  rw [aC e];obtain rfl:k=i:=by omega
  rw [a1];by_cases h0:below l (runE l k).1 (at0 l k)=0
  .rw [aI (by omega),aI h0]
  rw [aC (by omega),aC h0];have hlt:below l (runE l k).1 (at0 l k) - 1<(runE l k).1.length:=by omega
  have hp:(runE l k).1[below l (runE l k).1 (at0 l k) - 1]?=some ((runE l k).1[below l (runE l k).1 (at0 l k) - 1]):=aQ hlt;obtain⟨t1,_,_⟩:=tA (fun e=>decide (at0 l e<at0 l k)) (runE l k).1;have hx:=t1 (below l (runE l k).1 (at0 l k) - 1) _ (by unfold below at h0 |-;omega) hp;obtain⟨e1,e2,e3⟩:=h1.lt _ _ hp;refine⟨_,by rw [fA,hp];rfl,e1,by omega,by simpa using hx,fun m hm hl=>e3 m hm (by omega)⟩
end Go.Proofs.YtbgfljpnhhdkoaaGreat.Lis
namespace Go.Proofs.YtbgfljpnhhdkoaaGreat
open Go Go.Vm
variable {a b l now os:List Int}{i k:Nat}{x y:Int}
def tN(os:List Int)(x:Int):List Int:=if x∈os then os else os++ [x]
def cZ(l:List Int):List Int:=l.foldl tN []
theorem Bn(l:List Int)(x:Int):cZ (l++ [x])=tN (cZ l) x:=by simp [cZ]
theorem nF(l:List Int)(k:Nat)(h:k<l.length):l.take (k+1)=l.take k++ [l[k]]:=by
 rw [zF h]
theorem aMw :y∈tN os x↔y∈os\/y=x:=by
 unfold tN;split
 .constructor
  .exact .inl
  rintro(h | rfl)
  .exact h
  assumption
 simp
theorem Qp:∀(l os:List Int) (y:Int),y∈l.foldl tN os↔y∈os\/y∈l
 | [],os,y=>by simp
 | x::l,os,y=>by
  rw [dV,Qp l,aMw];simp [or_assoc]
theorem yO :y∈cZ l↔y∈l:=by simp [cZ,Qp]
theorem Zo (h:os.Nodup):(tN os x).Nodup:=by
 unfold tN;split
 .exact h
 rename_i hx;rw [mR];exact⟨h,by simp,fun a ha b hb=>by simp at hb;subst hb;rintro rfl;exact hx ha⟩
theorem Ie:∀(l os:List Int),os.Nodup->(l.foldl tN os).Nodup
 | [],os,h=>h
 | x::l,os,h=>Ie l _ (Zo h)
theorem xL(l:List Int):(cZ l).Nodup:=Ie l [] (by simp)
theorem Ij:∀(l os:List Int),(os++l).Nodup->l.foldl tN os=os++l
 | [],os,_=>by simp
 | x :: l, os, h => by
  have hx:x∉os:=fun hx=>by
   rw [mR] at h;exact h.2.2 x hx x (by simp) rfl
  rw [dV,show tN os x=os++ [x] by simp [tN,hx],Ij l _ (by simpa using h)];simp
theorem Vo (h:l.Nodup):cZ l=l:=by simpa [cZ] using Ij l [] (by simpa using h)
theorem aH5(os:List Int)(x:Int):(tN os x).length<=os.length+1:=by unfold tN;split <;> simp
theorem Rj:∀(l os:List Int),(l.foldl tN os).length<=os.length+l.length
 | [],os=>by simp
 | x::l,os=>by
  have h:=Rj l (tN os x);have:=aH5 os x;simp only [dV,bT];omega
theorem vE(l:List Int):(cZ l).length<=l.length:=by simpa [cZ] using Rj l []
def Ap(f:Int->Int)(os:List Int):List (Value×Nat×D):=os.zipIdx.map fun p=>(.int .i64 p.1,p.2,D.int (f p.1))
theorem Cq(f:Int->Int)(os:List Int)(j:Nat):(Ap f os)[j]?=(os[j]?).map fun x=>(.int .i64 x,j,D.int (f x)):=by
 simp [Ap,bW,List.getElem?_zipIdx];rfl
theorem aIt(f:Int->Int)(os:List Int)(x:Int):Ap f (os++ [x])=Ap f os++ [(.int .i64 x,os.length,D.int (f x))]:=by
 simp [Ap,List.zipIdx_append]
theorem aCz {f:Int->Int} {e:Value×Nat×D} (h:e∈Ap f os):∃x∈os,e.1= .int .i64 x:=by
 obtain⟨j,hj⟩:=eI h;rw [Cq] at hj;cases hx:os[j]? with
 | none=>rw [hx] at hj;cases hj
 | some x=>rw [hx] at hj;simp at hj;exact⟨x,bA hx,by rw [<- hj]⟩
theorem aMe(f:Int->Int)(os:List Int)(x:Int):Gf (Ap f os) (.int .i64 x) (D.int 0) (D.int (if x∈os then f x else 0)) (decide (x∈os)):=by
 unfold Gf;by_cases h:x∈os
 .obtain⟨j,hj⟩:=eI h;exact .inl ⟨by simp [h],j,j,by rw [Cq,hj];simp [h]⟩
 refine .inr ⟨by simp [h],by simp [h],fun e he hk=>?_⟩;obtain⟨y,hy,hy2⟩:=aCz he;rw [hy2] at hk;simp at hk;subst hk;exact h hy
theorem Wk(f:Int->Int)(os:List Int)(x v:Int)(hv:v=f x):aF1 (Ap f os) os.length (.int .i64 x) (D.int v) (Ap f (tN os x)) (tN os x).length:=by
 subst hv;unfold aF1 tN;by_cases h:x∈os
 .obtain⟨j,hj⟩:=eI h;have hg:(Ap f os)[j]?=some (.int .i64 x,j,D.int (f x)):=by rw [Cq,hj];rfl
  refine .inl ⟨j,j,D.int (f x),hg,?_,by rw [aI h]⟩;rw [aI h];apply mL;intro i;rw [bP];split
  .rename_i e;subst e;split
   .exact hg
   rename_i hlt;rw [iZ (by omega)]
  rfl
 refine .inr ⟨fun e he hk=>?_,by rw [aC h,aIt],by rw [aC h];simp⟩;obtain⟨y,hy,hy2⟩:=aCz he;rw [hy2] at hk;simp at hk;subst hk;exact h hy
def Im(l:List Int)(x:Int):Int:=Lb x l+1
theorem Kp (h:k<l.length)(hn:l[k]∉l.take k):Lb l[k] l=k:=
 tZ h (fun x hx=>by simp;rintro rfl;exact hn hx) (by simp)
theorem xV (h:x∈l):∃k:Nat,∃hk:k<l.length,Lb x l=k/\l[k]=x/\x∉l.take k:=by
 unfold Lb wQ;split
 .rename_i k hf;rw [qL] at hf;obtain⟨hk,he,hn⟩:=hf;refine⟨k,hk,rfl,by simpa using he,fun hx=>?_⟩;obtain⟨j,hj⟩:=eI hx;rw [eJ] at hj;split at hj
  .rename_i hjk;have:=hn j hjk;rw [aQ (by omega)] at hj;simp at hj;simp [hj] at this
  cases hj
 rename_i hf;rw [qX] at hf;have:=hf x h;simp at this
theorem aBx (h:x∈l):0<Im l x:=by
 obtain⟨k,hk,h1,_⟩:=xV h;unfold Im;omega
def at_(l:List Int)(x:Int):Int:=if x∈l then Im l x else 0
theorem aP2(l:List Int)(x:Int):(if x∈cZ l then Im l x else 0)=at_ l x:=by simp only [at_,yO]
theorem Gx :0<at_ l x↔x∈l:=by
 unfold at_;by_cases h:x∈l
 .simp [h,aBx h]
 simp [h]
theorem aCm (hk:k<l.length):at_ l l[k]=(k:Int)+1↔l[k]∉l.take k:=by
 have hm:l[k]∈l:=cN hk;unfold at_;rw [aI hm];constructor
 .intro h hx;obtain⟨j,hj,h1,h2,h3⟩:=xV hm;unfold Im at h;have:j=k:=by omega
  subst this;exact h3 hx
 intro h;unfold Im;rw [Kp hk h]
theorem Pr (hk:k<l.length):cZ (l.take (k+1))=if at_ l l[k]=(k:Int)+1 then cZ (l.take k)++ [l[k]] else cZ (l.take k):=by
 rw [nF l k hk,Bn];unfold tN;simp only [yO];by_cases h:l[k]∈l.take k
 .rw [aI h,aC (fun e=>((aCm hk).1 e) h)]
 rw [aC h,aI ((aCm hk).2 h)]
def lF(a b:List Int):List Int:=b.filter fun x=>decide (x∈a)
def kV(a b:List Int):List Int:=(lF a b).map fun x=>at_ a x
def nI(a b:List Int):List Int:=(Lis.ofP (kV a b)).map fun i=>((lF a b)[i]?.getD 0)
theorem Ld (hk:k<b.length):lF a (b.take (k+1))=if b[k]∈a then lF a (b.take k)++ [b[k]] else lF a (b.take k):=by
 rw [nF b k hk];unfold lF;rw [eP];by_cases h:b[k]∈a <;> simp [h]
def lW(a b:List Int):List ST:=(a.filter fun x=> !decide (x∈b)).map fun x=>⟨1,x,0⟩
def xF(b now:List Int)(i:Nat):Nat:=if i+1<b.length then(Lb (b[i+1]?.getD 0) now).toNat else now.length
def Mi(now:List Int)(x:Int):List Int:=now.filter fun y=> !decide (y=x)
def gA(a now:List Int)(x:Int):List Int:=if x∈a then Mi now x else now
def Nw(a b os:List Int)(i:Nat)(s:List Int×List ST):List Int×List ST:=
 if b[i]?.getD 0∈os then s else
 (fV (gA a s.1 (b[i]?.getD 0)) (xF b (gA a s.1 (b[i]?.getD 0)) i) (b[i]?.getD 0),s.2++ [⟨if b[i]?.getD 0∈a then 3 else 2,b[i]?.getD 0,xF b (gA a s.1 (b[i]?.getD 0)) i⟩])
def oH(a b os:List Int):Nat->List Int×List ST
 | 0=>(a.filter fun x=>decide (x∈b),lW a b)
 | k+1=>Nw a b os (b.length - 1 - k) (oH a b os k)
def kY(frm to:List Int):List ST:=(oH (cZ frm) (cZ to) (cZ (nI (cZ frm) (cZ to))) (cZ to).length).2
structure InvB(a b os:List Int)(k:Nat)(now:List Int):Prop where
 stay:∀x∈os,x∈now
 done:∀j,b.length - k<=j->j<b.length->(b[j]?.getD 0)∈now
 len:now.length<=a.length+k
theorem Mz :y∈fV l i x↔y=x\/y∈l:=by
 unfold fV;rw [cK,bU];constructor
 .rintro(h | h | h)
  .exact .inr (oZ h)
  .exact .inl h
  exact .inr (yT h)
 rintro(h | h)
 .exact .inr (.inl h)
 rw [<- fP i l,cK] at h;rcases h with h | h
 .exact .inl h
 exact .inr (.inr h)
theorem Xp(a now:List Int)(x:Int):(gA a now x).length<=now.length:=by
 unfold gA Mi;split
 .exact gE _ _
 exact aV _
theorem Dc (h:y∈now)(hne:y≠x):y∈gA a now x:=by
 unfold gA Mi;split
 .simp [h,hne]
 exact h
theorem aCo (hb:b.Nodup) {j:Nat} (hi:i<b.length)(hj:j<b.length)(h:i≠j):b[i]?.getD 0≠b[j]?.getD 0:=by
 rw [aQ hi,aQ hj];intro e;exact h ((Ff hb).1 (by simpa using e))
theorem aKk (hb:b.Nodup)(hk:k<b.length)(h:InvB a b os k now)(hn:¬(b[b.length - 1 - k]?.getD 0)∈os):
  xF b (gA a now (b[b.length - 1 - k]?.getD 0)) (b.length - 1 - k)<=(gA a now (b[b.length - 1 - k]?.getD 0)).length/\
  ((b.length - 1 - k:Nat)+1<b.length->Lb (b[b.length - 1 - k+1]?.getD 0) (gA a now (b[b.length - 1 - k]?.getD 0))=(xF b (gA a now (b[b.length - 1 - k]?.getD 0)) (b.length - 1 - k):Nat)):=by
 unfold xF;split
 .rename_i hlt;have hm:(b[b.length - 1 - k+1]?.getD 0)∈gA a now (b[b.length - 1 - k]?.getD 0):=Dc (h.done _ (by omega) (by omega)) (aCo hb (by omega) (by omega) (by omega));obtain⟨j,hj,h1,_⟩:=xV hm;exact⟨by omega,fun _=>by omega⟩
 exact⟨aV _,fun h=>by omega⟩
theorem InvB.zero (h:∀x∈os,x∈a/\x∈b):InvB a b os 0 (a.filter fun x=>decide (x∈b)):=
 ⟨fun x hx=>by simp [h x hx],fun j h1 h2=>by omega,by simpa using List.length_filter_le _ _⟩
theorem InvB.next {s:List Int×List ST} (hb:b.Nodup)(hk:k<b.length)(h:InvB a b os k s.1):InvB a b os (k+1) (Nw a b os (b.length - 1 - k) s).1:=by
 have hcase:∀j,b.length - (k+1)<=j->j<b.length->j=b.length - 1 - k\/b.length - k<=j:=fun j h1 h2=>by omega
 unfold Nw;by_cases hx:b[b.length - 1 - k]?.getD 0∈os
 .rw [aI hx];refine⟨h.stay,fun j h1 h2=>?_,by have:=h.len;omega⟩;rcases hcase j h1 h2 with rfl | hj
  .exact h.stay _ hx
  exact h.done j hj h2
 rw [aC hx];obtain⟨p1,p2⟩:=aKk hb hk h hx;refine⟨fun x hxo=>?_,fun j h1 h2=>?_,?_⟩
 .exact Mz.2 (.inr (Dc (h.stay x hxo) (by rintro rfl;exact hx hxo)))
 .rcases hcase j h1 h2 with rfl | hj
  .exact Mz.2 (.inl rfl)
  exact Mz.2 (.inr (Dc (h.done j hj h2) (aCo hb h2 (by omega) (by omega))))
 have:=Xp a s.1 (b[b.length - 1 - k]?.getD 0);have:=h.len;rw [jW _ _ _ p1];omega
theorem Lu (hb:b.Nodup)(h:∀x∈os,x∈a/\x∈b):∀k,k<=b.length->InvB a b os k (oH a b os k).1
 | 0,_=>InvB.zero h
 | k+1,hk=>(Lu hb h k (by omega)).next hb (by omega)
theorem Jp {a b os:List Int} :∀k,(oH a b os k).2.length<=a.length+k
 | 0=>by
  show(lW a b).length<=_
  unfold lW;rw [bI];exact gE _ _
 | k+1=>by
  have:=Jp (a:=a) (b:=b) (os:=os) k;show(Nw a b os _ _).2.length<=_
  unfold Nw;split
  .omega
  simp;omega
theorem Xm (h:∀i∈Lis.ofP (kV a b),i<(lF a b).length):∀x∈cZ (nI a b),x∈a/\x∈b:=by
 intro x hx;rw [yO] at hx;unfold nI at hx;obtain⟨i,hi,rfl⟩:=aX.1 hx;have hlt:=h i hi;rw [aQ hlt];have hm:(lF a b)[i]∈lF a b:=cN hlt;have h2:(lF a b)[i]∈b.filter fun x=>decide (x∈a):=hm;rw [cY] at h2;exact⟨by simpa using h2.2,h2.1⟩
theorem aKv {s:List Int×List ST} (hi:i<b.length)(h:b[i]∈os):Nw a b os i s=s:=by
 unfold Nw;rw [aQ hi,fK,aI h]
theorem Cp {s:List Int×List ST} (hi:i<b.length)(h:¬b[i]∈os):Nw a b os i s=(fV (gA a s.1 b[i]) (xF b (gA a s.1 b[i]) i) b[i],s.2++ [⟨if b[i]∈a then 3 else 2,b[i],xF b (gA a s.1 b[i]) i⟩]):=by
 unfold Nw;rw [aQ hi,fK,aC h]
theorem aN2 (hb:b.Nodup)(hk:k<b.length)(h:InvB a b os k now)(hik:b.length - 1 - k=i)(hi:i<b.length)(hn:¬b[i]∈os):
  xF b (gA a now b[i]) i<=(gA a now b[i]).length/\(∀h1:i+1<b.length,Lb b[i+1] (gA a now b[i])=(xF b (gA a now b[i]) i:Nat))/\(¬i+1<b.length->xF b (gA a now b[i]) i=(gA a now b[i]).length):=by
 subst hik;have e:b[b.length - 1 - k]?.getD 0=b[b.length - 1 - k]:=by rw [aQ hi];rfl
 have:=aKk hb hk h (by rw [e];exact hn);rw [e] at this;refine⟨this.1,fun h1=>?_,fun h1=>?_⟩
 .have h2:=this.2 h1
  rwa [aQ h1,fK] at h2
 unfold xF;rw [aC h1]
end Go.Proofs.YtbgfljpnhhdkoaaGreat
