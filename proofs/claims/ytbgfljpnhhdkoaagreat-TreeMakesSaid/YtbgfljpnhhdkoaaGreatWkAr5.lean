import Derived.Test.YtbgfljpnhhdkoaaGreatWkAr4
set_option linter.all false
set_option maxRecDepth 20000
set_option maxHeartbeats 8000000
open Go.Proofs.Tryz
namespace Go.Proofs.YtbgfljpnhhdkoaaGreat
open Go Go.Vm
variable {a b c:ByteArray}
def dS(a b:ByteArray):Bool:=Op.bytesLess a.toList b.toList
theorem No:∀a:List UInt8,Op.bytesLess a a=false
  | []=>rfl
  | a::x=>by simp [Op.bytesLess,No x]
theorem aXa {a b:UInt8} :a<b↔a.toNat<b.toNat:=Iff.rfl
theorem Xu:∀a b c:List UInt8,Op.bytesLess a b=true->Op.bytesLess b c=true->Op.bytesLess a c=true
  | [], [],_,h,_=>by simp [Op.bytesLess] at h
  | _::_, [],_,h,_=>by simp [Op.bytesLess] at h
  | [],_::_, [],_,h=>by simp [Op.bytesLess] at h
  | _::_,_::_, [],_,h=>by simp [Op.bytesLess] at h
  | [],_::_,_::_,_,_=>by simp [Op.bytesLess]
  | a :: x, b :: y, c :: z, h1, h2 => by
    simp only [Op.bytesLess,Gl,gP,fN,xY,aXa] at *;rcases h1 with h1 | ⟨rfl,h1⟩
    . rcases h2 with h2 | ⟨rfl, h2⟩
      . left;omega
      left;exact h1
    rcases h2 with h2 | ⟨rfl,h2⟩
    . left;exact h2
    right;exact⟨rfl,Xu x y z h1 h2⟩
theorem oP(a:ByteArray):dS a a=false:=No _
theorem tN (h1:dS a b=true)(h2:dS b c=true):dS a c=true:=Xu _ _ _ h1 h2
theorem Tv(a b:ByteArray):dS a b=true\/a=b\/dS b a=true:=by
  have h:=yA a.toList b.toList;unfold dS;cases h1:Op.bytesLess a.toList b.toList with
  | true=>left;rfl
  | false =>
    rw [h1,Fp,qW] at h;cases h2:Op.bytesLess b.toList a.toList with
    | true=>right;right;rfl
    | false=>rw [h2] at h;right;left;simpa using h
theorem Kc (h:dS a b=true):dS b a=false:=by
  cases h2:dS b a with
  | false=>rfl
  | true=>have:=tN h h2;rw [oP] at this;cases this
theorem qY (h:dS a b=true):a≠b:=by rintro rfl;rw [oP] at h;cases h
theorem Wh (h:dS a b=false)(hn:a≠b):dS b a=true:=by
  rcases Tv a b with h1 | h1 | h1
  . rw [h1] at h;cases h
  . exact absurd h1 hn
  exact h1
def Ji(a b:ByteArray):Int:=if dS a b=true then -1 else if dS b a=true then 1 else 0
theorem Ky(a b:ByteArray):Ji a b<0↔dS a b=true:=by
  unfold Ji;repeat' split
  all_goals simp_all
theorem aDa(a b:ByteArray):0<=Ji a b↔dS a b=false:=by
  have:=Ky a b;rw [<- zV,<- this];omega
theorem Pu(a b:ByteArray):Ji a b=0↔a=b:=by
  unfold Ji
  repeat' split
  . rename_i h;simp;exact qY h
  . rename_i h;simp;exact fun e=>qY h e.symm
  rename_i h1 h2;simp only [true_iff];rcases Tv a b with h | h | h
  . exact absurd h h1
  . exact h
  exact absurd h h2
section
variable {α:Type} (nm:α->ByteArray)
def lI:List α->ByteArray->Nat
  | [],_=>0
  | q::l,c=>if dS (nm q) c=true then lI l c+1 else 0
def Lt:List α->ByteArray->Bool
  | [],_=>false
  | q::l,c=>if dS (nm q) c=true then Lt l c else decide (nm q=c)
def fU:List α->α->List α
  | [],p=> [p]
  | q::l,p=>if dS (nm q) (nm p)=true then q::fU l p else if nm q=nm p then p::l else p::q::l
def Sorted(l:List α):Prop:=l.Pairwise fun a b=>dS (nm a) (nm b)=true
def iC(l:List α):List α:=l.foldl (fU nm) []
def mA(l:List α)(c:ByteArray):Bool:=l.any fun p=>decide (nm p=c)
def lF(l:List α)(c:ByteArray):List α:=l.filter fun p=> !decide (nm p=c)
theorem Qu(l:List α)(c:ByteArray):lI nm l c<=l.length:=by
  induction l with
  | nil=>exact aW _
  | cons q l ih=>unfold lI;split <;> simp <;> omega
theorem Qt:∀(l:List α) (c:ByteArray) (i:Nat),i<=l.length->(∀j (h:j<l.length),j<i->dS (nm l[j]) c=true)->(∀h:i<l.length,dS (nm l[i]) c=false)->lI nm l c=i
  | [],c,i,hi,_,_=>by simp at hi;subst hi;rfl
  | q :: l, c, 0, _, _, h2 => by
    have:=h2 (by simp);simp only [yH] at this;simp [lI,this]
  | q :: l, c, i + 1, hi, h1, h2 => by
    have h0:=h1 0 (by simp) (by omega);simp only [yH] at h0;have:=Qt l c i (by simpa using hi) (fun j h hj=>h1 (j+1) (by simpa using h) (by omega)) (fun h=>h2 (by simpa using h));simp [lI,h0,this]
theorem Sj:∀(l:List α) (c:ByteArray) (h:lI nm l c<l.length),Lt nm l c=decide (nm l[lI nm l c]=c)
  | [],c,h=>by simp at h
  | q :: l, c, h => by
    by_cases e:dS (nm q) c=true
    . have hp : lI nm (q :: l) c = lI nm l c + 1 := by simp [lI, e]
      have h':lI nm l c<l.length:=by rw [hp] at h;simpa using h
      have:=Sj l c h';simp only [Lt,e,aU,this,hp,zM]
    have hp:lI nm (q::l) c=0:=by simp [lI,e]
    simp only [Lt,e,bK,hp,yH];rfl
theorem It:∀(l:List α) (c:ByteArray),lI nm l c=l.length->Lt nm l c=false
  | [],c,_=>rfl
  | q :: l, c, h => by
    by_cases e:dS (nm q) c=true
    . have hp : lI nm (q :: l) c = lI nm l c + 1 := by simp [lI, e]
      simp only [Lt,e,aU];exact It l c (by rw [hp] at h;simpa using h)
    have hp:lI nm (q::l) c=0:=by simp [lI,e]
    rw [hp] at h;simp at h
theorem Be {l:List α} (h:Lt nm l c=true):lI nm l c<l.length:=by
  have:=Qu nm l c;rcases uQ (lI nm l c) l.length with h1 | h1
  . exact h1
  have:=It nm l c (by omega);rw [h] at this;cases this
theorem Bz:∀(l:List α) (p:α),fU nm l p=if Lt nm l (nm p)=true then l.set (lI nm l (nm p)) p else fQ l (lI nm l (nm p)) p
  | [],p=>rfl
  | q :: l, p => by
    by_cases e:dS (nm q) (nm p)=true
    . have ih := Bz l p
      simp only [fU,Lt,lI,e,aU,ih];split <;> simp [fQ]
    simp only [fU,Lt,lI,e,bK];by_cases e2:nm q=nm p <;> simp [e2,fQ]
theorem Cx(l:List α)(p:α):(fU nm l p).length<=l.length+1:=by
  induction l with
  | nil=>simp [fU]
  | cons q l ih => unfold fU; repeat' split
                   all_goals simp
                   all_goals omega
theorem Dp {l:List α} {p x:α} (h:x∈fU nm l p):x=p\/x∈l:=by
  induction l with
  | nil=>simp [fU] at h;exact .inl h
  | cons q l ih =>
    unfold fU at h;split at h
    . rcases bM.1 h with h | h
      . exact .inr (by simp [h])
      rcases ih h with h | h
      . exact .inl h
      exact .inr (by simp [h])
    split at h
    . rcases bM.1 h with h | h
      . exact .inl h
      exact .inr (by simp [h])
    rcases bM.1 h with h | h
    . exact .inl h
    exact .inr h
theorem nI {l:List α} (h:Sorted nm l)(p:α):Sorted nm (fU nm l p):=by
  induction l with
  | nil=>simp [fU,Sorted]
  | cons q l ih =>
    have h':=jB.1 h;unfold fU;split
    . rename_i e
      refine jB.2 ⟨fun x hx=>?_,ih h'.2⟩;rcases Dp nm hx with rfl | hx
      . exact e
      exact h'.1 x hx
    rename_i e;split
    . rename_i e2
      exact jB.2 ⟨fun x hx=>by rw [<- e2];exact h'.1 x hx,h'.2⟩
    rename_i e2;have e3:=Wh (by simpa using e) e2;refine jB.2 ⟨fun x hx=>?_,h⟩;rcases bM.1 hx with rfl | hx
    . exact e3
    exact tN e3 (h'.1 x hx)
theorem xI(l:List α)(p:α):iC nm (l++ [p])=fU nm (iC nm l) p:=by simp [iC,jR]
theorem Jz(l:List α)(k:Nat)(h:k<l.length):iC nm (l.take (k+1))=fU nm (iC nm (l.take k)) l[k]:=by rw [bL l k h,xI]
theorem gL(l:List α):Sorted nm (iC nm l):=by
  induction l using pK with
  | h0=>simp [iC,Sorted]
  | h1 l x ih=>rw [xI];exact nI nm ih x
theorem iI(l:List α):(iC nm l).length<=l.length:=by
  induction l using pK with
  | h0=>simp [iC]
  | h1 l x ih=>rw [xI];have:=Cx nm (iC nm l) x;simp;omega
theorem aEe {l:List α} {p:α} (h:∀x∈l,dS (nm x) (nm p)=true):fU nm l p=l++ [p]:=by
  induction l with
  | nil=>rfl
  | cons q l ih =>
    have:=h q (by simp);simp only [fU,this,aU,aQ];rw [ih fun x hx=>h x (by simp [hx])]
theorem rP {l:List α} (h:Sorted nm l):iC nm l=l:=by
  induction l using pK with
  | h0=>rfl
  | h1 l x ih =>
    have h':=Gq.1 h;rw [xI,ih h'.1,aEe nm fun y hy=>h'.2.2 y hy x (by simp)]
theorem Iw {l:List α} (h:Sorted nm l)(c:ByteArray):Lt nm l c=mA nm l c:=by
  induction l with
  | nil=>rfl
  | cons q l ih =>
    have h':=jB.1 h;unfold Lt mA;simp only [List.any_cons];split
    . rename_i e
      rw [ih h'.2];have:¬nm q=c:=qY e;simp [this,mA]
    rename_i e;have:(l.any fun p=>decide (nm p=c))=false:=by
      rw [qI];intro x hx;simp only [fN];rintro rfl;have:=h'.1 x hx;exact e this
    rw [this,zD]
theorem tT {l:List α} (h:Sorted nm l)(c:ByteArray):Sorted nm (lF nm l c):=Gn _ h
theorem Ed(l:List α)(c:ByteArray):(lF nm l c).length<=l.length:=jD _ _
theorem Ml {l:List α} (c:ByteArray):((lF nm l c).length=l.length)↔mA nm l c=false:=by
  unfold lF mA;rw [List.length_filter_eq_length_iff,qI];simp
theorem yM(l:List α)(c:ByteArray)(k:Nat)(h:k<l.length):lF nm (l.take (k+1)) c=lF nm (l.take k) c++if nm l[k]=c then [] else [l[k]]:=by
  unfold lF;rw [bL l k h,fX,gQ];by_cases e:nm l[k]=c <;> simp [e]
theorem aR6 {l:List α} {m:Nat} (hs:Sorted nm l)(hm:m<l.length)(h:dS (nm l[m]) c=true):∀j (h:j<l.length),j<m+1->dS (nm l[j]) c=true:=fun j hj hjm=>by
  rcases uQ j m with h1 | h1
  . exact tN (qR.1 hs j m hj hm h1) h
  obtain rfl:j=m:=by omega
  exact h
theorem aSm {l:List α} {m:Nat} (hs:Sorted nm l)(hm:m<l.length)(h:dS (nm l[m]) c=false):∀j (h:j<l.length),m<=j->dS (nm l[j]) c=false:=fun j hj hjm=>by
  rcases uQ m j with h1 | h1
  . have := qR.1 hs m j hm hj h1
    cases e:dS (nm l[j]) c with
    | false=>rfl
    | true=>rw [tN this e] at h;cases h
  obtain rfl:j=m:=by omega
  exact h
def mT(p:α)(s:List α×Bool)(x:α):List α×Bool:=
  let s1:=if s.2=false/\dS (nm x) (nm p)=false then(s.1++ [p],true)else s
  if nm x=nm p then s1 else(s1.1++ [x],s1.2)
def rT(l:List α)(p:α):List α×Bool:=l.foldl (mT nm p) ([],false)
def aE6(s:List α×Bool)(p:α):List α:=if s.2=true then s.1 else s.1++ [p]
theorem pZ(l:List α)(p:α)(k:Nat)(h:k<l.length):rT nm (l.take (k+1)) p=mT nm p (rT nm (l.take k) p) l[k]:=by
  unfold rT;rw [bL l k h,jR];rfl
theorem aDn(l:List α)(p:α):(rT nm l p).1.length<=l.length+(if(rT nm l p).2=true then 1 else 0):=by
  induction l using pK with
  | h0=>simp [rT]
  | h1 l x ih =>
    have e:rT nm (l++ [x]) p=mT nm p (rT nm l p) x:=by unfold rT;rw [jR];rfl
    rw [e];generalize rT nm l p=s at ih;obtain⟨o,b⟩:=s;unfold mT;cases b <;> by_cases e1:dS (nm x) (nm p)=false <;> by_cases e2:nm x=nm p <;> simp_all <;> omega
theorem Kg(p:α):∀(l o:List α),(l.foldl (mT nm p) (o,true))=(o++lF nm l (nm p),true)
  | [],o=>by simp [lF]
  | x :: l, o => by
    rw [dO];have e:mT nm p (o,true) x=(if nm x=nm p then o else o++ [x],true):=by
      unfold mT;simp;split <;> rfl
    rw [e,Kg p l];unfold lF;by_cases e2:nm x=nm p <;> simp [e2]
theorem Ia (p : α) : ∀ (l o : List α), Sorted nm l -> aE6 (l.foldl (mT nm p) (o, false)) p = o ++ fU nm l p
  | [],o,_=>by simp [aE6,fU]
  | x :: l, o, h => by
    have h':=jB.1 h;rw [dO];by_cases e1:dS (nm x) (nm p)=true
    . have e : mT nm p (o, false) x = (o ++ [x], false) := by
        unfold mT;simp [e1,qY e1]
      rw [e,Ia p l _ h'.2];simp [fU,e1]
    have e1':dS (nm x) (nm p)=false:=by simpa using e1
    have hid:∀y∈l,nm y≠nm p:=fun y hy hp=>e1 (by have:=h'.1 y hy;rw [hp] at this;exact this);have hdel:lF nm l (nm p)=l:=by
      unfold lF;rw [nK];intro y hy;simp [hid y hy]
    have e:mT nm p (o,false) x=(if nm x=nm p then o++ [p] else o++ [p]++ [x],true):=by
      unfold mT;simp [e1'];split <;> rfl
    rw [e,Kg,hdel];by_cases e2:nm x=nm p <;> simp [aE6,fU,e1,e2,oP]
theorem Oj {l:List α} (h:Sorted nm l)(p:α):aE6 (rT nm l p) p=fU nm l p:=by
  have:=Ia nm p l [] h;simpa [rT] using this
def rQ(out:List α)(c:ByteArray):Bool:=match out.getLast? with | none=>true | some q=>dS (nm q) c
def Nf(l out:List α):Option α:=((iC nm l).filter fun p=>rQ nm out (nm p)).head?
theorem Xl {g:ByteArray->Bool} (hup:∀a b,dS a b=true->g a=true->g b=true):∀(l:List α) (p:α),(fU nm l p).filter (fun q=>g (nm q))=if g (nm p)=true then fU nm (l.filter fun q=>g (nm q)) p else l.filter fun q=>g (nm q)
  | [],p=>by by_cases e:g (nm p)=true <;> simp [fU,e]
  | q :: l, p => by
    have ih:=Xl hup l p;by_cases e:dS (nm q) (nm p)=true
    . simp only [fU, e, aU, gQ, ih]
      by_cases e1:g (nm q)=true <;> by_cases e2:g (nm p)=true <;> simp [e1,e2,fU,e]
    by_cases e3:nm q=nm p
    . simp only [fU, e, e3, aU, bK, gQ]
      by_cases e2:g (nm p)=true
      . simp [e2,fU,e3,oP]
      simp [e2,oP]
    simp only [fU,e,e3,bK,gQ];have e4:=Wh (by simpa using e) e3;by_cases e2:g (nm p)=true
    . have e1 := hup _ _ e4 e2
      simp [e1,e2,fU,e,e3]
    by_cases e1:g (nm q)=true <;> simp [e1,e2,fU,e,e3]
theorem aM5(out:List α):∀a b,dS a b=true->rQ nm out a=true->rQ nm out b=true:=by
  intro a b h1 h2;unfold rQ at *;split
  . rfl
  rename_i q hq;rw [hq] at h2;exact tN h2 h1
theorem aGq(l out:List α)(k:Nat)(h:k<l.length):Nf nm (l.take (k+1)) out=if rQ nm out (nm l[k])=true then(match Nf nm (l.take k) out with | none=>some l[k] | some q=>if dS (nm q) (nm l[k])=true then some q else some l[k])else Nf nm (l.take k) out:=by
  unfold Nf;rw [Jz nm l k h,Xl nm (aM5 nm out)];split
  . cases (iC nm (l.take k)).filter fun p => rQ nm out (nm p) with
    | nil=>rfl
    | cons q r =>
      simp only [fU,List.head?_cons]
      repeat' split
      all_goals rfl
  rfl
theorem aTh(l out:List α):Nf nm (l.take 0) out=none:=by simp [Nf,iC]
theorem aH2 (l : List α) (k : Nat) (hk : k <= (iC nm l).length) : Nf nm l ((iC nm l).take k) = (iC nm l)[k]? := by
  have hs := gL nm l;unfold Nf;generalize iC nm l = S at *;have hd : (S.filter fun p => rQ nm (S.take k) (nm p)) = S.drop k := by
    cases k with
    | zero=>simp [rQ]
    | succ k =>
      have hl:(S.take (k+1)).getLast?=some S[k]:=by rw [bL S k (by omega),List.getLast?_concat]
      have hg:∀p,rQ nm (S.take (k+1)) (nm p)=dS (nm S[k]) (nm p):=fun p=>by unfold rQ;rw [hl]
      simp only [hg];have hsplit:∀q:α->Bool,S.filter q=(S.take (k+1)).filter q++(S.drop (k+1)).filter q:=fun q=>by rw [<- fX,eZ]
      rw [hsplit];have hp:(S.take (k+1)++S.drop (k+1)).Pairwise fun a b=>dS (nm a) (nm b)=true:=by rw [eZ];exact hs
      have h3:=Gq.1 hp;have hmem:S[k]∈S.take (k+1):=by rw [bL S k (by omega)];exact pA _ (fS.2 rfl)
      have f2:(S.drop (k+1)).filter (fun p=>dS (nm S[k]) (nm p))=S.drop (k+1):=by
        rw [nK];exact fun x hx=>h3.2.2 _ hmem x hx
      have f1:(S.take (k+1)).filter (fun p=>dS (nm S[k]) (nm p))= []:=by
        rw [sR];intro x hx;rw [bL S k (by omega)] at hx h3;rcases bT.1 hx with hx | hx
        . have := (Gq.1 h3.1).2.2 x hx S[k] (by simp)
          rw [Kc this];simp
        simp at hx;subst hx;rw [oP];simp
      rw [f1,f2,aO]
  rw [hd,qD]
end
abbrev nA:AT->ByteArray:=AT.name
abbrev nP:PI->ByteArray:=PI.name
theorem eC(a b:Nat):Int.fdiv ((a:Int)+(b:Int)) (2 ^ min 1 IntKind.u64.bits)=(((a+b) / 2:Nat):Int):=by
  have e:(2:Int) ^ min 1 IntKind.u64.bits=2:=by decide
  rw [e,Int.fdiv_eq_ediv_of_nonneg _ (by omega)];omega
theorem aQ0:IntKind.u64.min=0:=rfl
theorem aPa:IntKind.u64.max=18446744073709551615:=by decide
theorem eE(n:Int):inR .u64 n=(0<=n/\n<=18446744073709551615):=by
  show(IntKind.u64.min<=n/\n<=IntKind.u64.max)=_
  rw [aQ0,aPa]
theorem Um(s:ByteArray)(σ:List (List D))  :Ct prog 258 [D.str s] σ (fun r σ'=>r= .bool false/\σ'=σ):=by
  refine zf func258 ?_;refine bB fun _ _ Z=>?_;simp;apply Z;refine bB fun _ _ Z=>?_;simp;apply Z;apply aC;simp [aH]
theorem Kl(a b:ByteArray)(σ:List (List D))  :Ct prog 233 [D.str a,D.str b] σ (fun r σ'=>r= .int (Ji a b)/\σ'=σ):=by
  refine zf func233 ?_;refine bB fun _ _ Z=>?_;simp;apply Z;refine bB fun _ _ Z=>?_;refine zs 1 fun _ Y=>?_;simp;apply Y;refine aF fun _ Y=>?_;simp;refine cT (Um a _) ?_;apply Y;simp;apply Z;refine bB fun _ _ Z=>?_;refine zs 1 fun _ Y=>?_;simp;apply Y;refine aF fun _ Y=>?_;simp;refine cT (Um b _) ?_;apply Y;simp;apply Z;apply aE;refine bB fun _ _ Z=>?_;simp;apply Z;refine zI ?_ ?_<;>intro c1<;>try simp at c1
  apply zA;apply aE;refine bB fun _ _ Z=>?_;simp;apply Z;refine zI ?_ ?_<;>intro c2<;>try simp at c2
  apply zA;apply aE;refine bB fun _ _ Z=>?_;simp;apply Z;refine zI ?_ ?_<;>intro c3<;>try simp at c3
  . refine zk [0,1,4] ?_
    refine bB fun _ _ Z=>?_;simp;apply Z;apply aC;simp [aH,Ji,dS, *]
  apply zA;apply aE;refine zk [0,1,4] ?_;refine bB fun _ _ Z=>?_;simp;apply Z;refine zI ?_ ?_<;>intro c4<;>try simp at c4
  . refine bB fun _ _ Z=>?_
    simp;apply Z;apply aC;simp [aH,Ji,dS, *]
  apply zA;refine bB fun _ _ Z=>?_;simp;apply Z;apply aC;simp [aH,Ji,dS, *]
theorem aBu(x:AT)(s:ByteArray)(σ:List (List D))  :Ct prog 232 [dA x,D.str s] σ (fun r σ'=>r= .int (Ji x.name s)/\σ'=σ):=by
  refine zf func232 ?_;refine bB fun _ _ Z=>?_;simp;apply Z;refine bB fun _ _ Z=>?_;refine zs 3 fun _ Y=>?_;simp;apply Y;refine aF fun _ Y=>?_;simp;refine cT (Kl x.name s _) ?_;apply Y;simp;apply Z;apply aC;simp [aH]
@[simp] abbrev q32_1:Cfg:=⟨[],[],[],[13,27,43],[]⟩
theorem aVj (N cap : Nat) (l : List AT) (rest : List D) (c : ByteArray) (σ : List (List D)) (hl : l.length <= 1000000) (hN : σ[N]? = some (l.flatMap cA ++ rest)) (hs : Sorted nA l) : Ct prog 231 [.slo N 0 l.length cap, D.str c, .clo (.func 232) [] []] σ (fun r σ' => r = .tup [.int ((lI nA l c : Nat) : Int), .bool (Lt nA l c)] /\ σ' = σ) := by
  refine zf func231 ?_;refine zr q32_1 fun _ _ Z=>?_;simp(disch:=omega)[hN,eC,eE];apply Z;refine zr q32_1 fun _ _ Z=>?_;simp(disch:=omega)[hN,eC,eE];and_intros<;>(try omega);apply Z;refine zr q32_1 fun _ _ Z=>?_;simp(disch:=omega)[hN,eC,eE];apply Z;apply Od;refine zk [0,1,2,6,7,8,9,10] ?_;refine aY (fun(s:Nat×Nat)=> [(9,.d (.v (.int .i64 (s.1:Int)))),(10,.d (.v (.int .i64 (s.2:Int)))),(11,.d (.any))]) [9,10,11,15,16,17,18,19,20,21,22,23,24,25,26,27,28,29,30,31,32,33,34] (fun(s:Nat×Nat)=>s.1<=s.2/\s.2<=l.length/\(∀j (h:j<l.length),j<s.1->dS l[j].name c=true)/\(∀j (h:j<l.length),s.2<=j->dS l[j].name c=false)) (fun(s:Nat×Nat)=>s.2 - s.1) ((0,l.length)) (by simp <;> rfl) ?_ ?_ ?_
  . simp
  . exact⟨by omega,by omega,fun j h h2=>absurd h2 (by simp),fun j h h2=>absurd h2 (by simp;omega)⟩
  rintro⟨lo,hi⟩ ⟨h1,h2,h3,h4⟩;simp only [aQ,aO];dsimp only at h1 h2 h3 h4;have hmid:lo<hi->(lo+hi) / 2<hi:=fun h=>by omega
  apply aE;refine zr q32_1 fun _ _ Z=>?_;simp(disch:=omega)[hN,eC,eE];apply Z;refine zI ?_ ?_<;>intro c1<;>try simp at c1
  . apply zA
    apply aR;refine zk [0,1,2,6,7,8,9,10,11] ?_;refine zr q32_1 fun _ _ Z=>?_;simp(disch:=omega)[hN,eC,eE];and_intros<;>(try omega);apply Z;refine zk [0,1,2,6,7,8,9,10,11] ?_;refine zr q32_1 fun _ _ Z=>?_;refine zs 6 fun _ Y=>?_;simp(disch:=omega)[hN,eC,eE];and_intros<;>(try omega);apply Y;refine aF fun _ Y=>?_;simp(disch:=omega)[hN,eC,eE];refine cT (aBu l[(lo+hi) / 2] c _) ?_;apply Y;simp(disch:=omega)[hN,eC,eE];apply Z;refine zI ?_ ?_<;>intro c2<;>try simp at c2
    . refine zk [0,1,2,6,7,8,9,10,11] ?_
      refine zt q32_1 fun _ _ Z=>?_;simp(disch:=omega)[hN,eC,eE];and_intros<;>(try omega);apply Z;apply lL;refine zq (((lo+hi) / 2+1,hi)) ?_ ?_ ?_
      . exact⟨by dsimp only;omega,by dsimp only;omega,aR6 nA hs (by omega) (by simpa [Ky] using c2),h4⟩
      . try dsimp only
        omega
      simp(disch:=omega)[hN,eC,eE]
    refine zk [0,1,2,6,7,8,9,10,11] ?_;refine zt q32_1 fun _ _ Z=>?_;simp(disch:=omega)[hN,eC,eE];apply Z;apply lL;refine zq ((lo,(lo+hi) / 2)) ?_ ?_ ?_
    . exact⟨by dsimp only;omega,by dsimp only;omega,h3,aSm nA hs (by omega) ((aDa _ _).1 (by omega))⟩
    . try dsimp only
      omega
    simp(disch:=omega)[hN,eC,eE]
  obtain rfl:lo=hi:=by omega
  have hpos:lI nA l c=lo:=Qt nA l c lo h2 h3 (fun h=>h4 lo h (aW _));apply zE;refine zk [0,1,2,6,7,8,9] ?_;refine mH q32_1 fun all hall _ Z=>?_;have ga4:aN all 4=some 39:=hall 4;refine zs 5 fun _ Y=>?_;simp(disch:=omega)[hN,eC,eE,ga4];apply Y;refine zb 39 ?_ ?_<;>intro g3<;>try simp at g3
  . refine zs 6 fun _ Y=>?_
    simp(disch:=omega)[hN,eC,eE,ga4];and_intros<;>(try omega);apply Y;refine zg ga4 fun _ Y=>?_;simp(disch:=omega)[hN,eC,eE,ga4];refine cT (aBu l[lo] c _) ?_;apply Y;simp(disch:=omega)[hN,eC,eE,ga4];apply Z;apply aC;simp [aH,hpos,Sj, *];exact Pu _ _
  refine zs 8 fun _ Y=>?_;simp(disch:=omega)[hN,eC,eE,ga4];and_intros<;>(try omega);apply Y;simp(disch:=omega)[hN,eC,eE,ga4];apply Z;apply aC;simp [aH,hpos, *];exact It _ _ _ (by omega)
theorem Qq(N cap:Nat)(l:List AT)(rest:List D)(c:ByteArray)(σ:List (List D))(hl:l.length<=1000000)(hN:σ[N]?=some (l.flatMap cA++rest))(hs:Sorted nA l):Ct prog 198 [.slo N 0 l.length cap,D.str c] σ (fun r σ'=>r= .tup [.int ((lI nA l c:Nat):Int),.bool (Lt nA l c)]/\σ'=σ):=by
  refine zf func198 ?_;refine bB fun _ _ Z=>?_;simp[hN];apply Z;refine bB fun _ _ Z=>?_;refine zs 2 fun _ Y=>?_;simp[hN];apply Y;refine aF fun _ Y=>?_;simp[hN];refine cT (aVj N cap l rest c _ hl hN hs) ?_;apply Y;simp[hN];apply Z;apply aC;simp [aH]
@[simp] abbrev q32_2:Cfg:=⟨[4,19,20,24],[],[],[18],[]⟩
theorem aKo(l:List AT)(p:AT)(σ:List (List D))(hl:l.length<=999999)(hs:Sorted nA l):Ct prog 187 [.xs 2 (l.map dA),dA p] σ (fun r σ'=>r= .xs 2 ((fU nA l p).map dA)/\∃J,σ'=σ++J):=by
  refine zf func187 ?_;refine iL 0 2 rfl (by decide) fun cap rest hcap hcm hrest hk0 hes=>?_;subst hrest;simp only [bQ] at hcap |-;rw [cX (f:=cA) (fun _=>rfl)];have hpl:=Qu nA l p.name;refine zr q32_2 fun _ _ Z=>?_;simp(disch:=omega)[aI,aG];apply Z;refine zr q32_2 fun _ _ Z=>?_;refine zs 3 fun _ Y=>?_;simp(disch:=omega)[aI,aG];apply Y;refine aF fun _ Y=>?_;simp(disch:=omega)[aI,aG];refine cT (Qq σ.length cap l (List.replicate ((cap - l.length) * 2) .any) p.name _ (by omega) (by simp [aI]) hs) ?_;apply Y;simp(disch:=omega)[aI,aG];apply Z;apply aE;refine zr q32_2 fun _ _ Z=>?_;simp(disch:=omega)[aI,aG];apply Z;refine zI ?_ ?_<;>intro c1<;>try simp at c1
  . have hlt := Be nA c1
    refine zk [0,3,4,5] ?_;refine zr q32_2 fun _ _ Z=>?_;simp(disch:=omega)[aI,aG];and_intros<;>(try omega);apply Z;refine zr q32_2 fun _ _ Z=>?_;simp(disch:=omega)[aI,aG];apply Z;refine fI 4 2 σ.length l.length cap ((l.set (lI nA l p.name) p).map dA) ((l.set (lI nA l p.name) p).flatMap cA++List.replicate ((cap - l.length) * 2) .any) (by simp <;> rfl) (by simp [aI]) (by omega) (by simp only [aZ,dJ (f:=cA) (k:=2) (fun _=>rfl),cR,cK];omega) (by simp) (mR (d:=dA) (fun _=>⟨rfl,rfl⟩) _) (by rw [cX (f:=cA) (fun _=>rfl)];exact dC _ _) ?_;apply aC;simp [aH,Bz,c1]
  apply zA;refine fI 0 2 σ.length l.length cap (l.map dA) (l.flatMap cA++List.replicate ((cap - l.length) * 2) .any) (by simp <;> rfl) (by simp [aI]) (by omega) (by simp only [aZ,dJ (f:=cA) (k:=2) (fun _=>rfl),cR,cK];omega) (by simp) (mR (d:=dA) (fun _=>⟨rfl,rfl⟩) _) (by rw [cX (f:=cA) (fun _=>rfl)];exact dC _ _) ?_;refine zk [0,3,4,5] ?_;refine zr q32_2 fun _ _ Z=>?_;refine zs 4 fun _ Y=>?_;simp(disch:=omega)[aI,aG];and_intros<;>(try omega);apply Y;refine aF fun _ Y=>?_;simp(disch:=omega)[aI,aG];refine cT (aRy l p (lI nA l p.name) _ (by omega) hpl) ?_;apply Y;simp(disch:=omega)[aI,aG];apply Z;apply aC;simp [aH,Bz,c1]
theorem aC6(l:List AT)(p:AT)(σ:List (List D))(hl:l.length<=999999)(hs:Sorted nA l):Ct prog 187 [.xs 2 (l.map dA),dA p] σ (fun r σ'=>r= .xs 2 ((fU nA l p).map dA)/\σ'=σ):=
  (aKo l p σ hl hs).trim fun r σ' ⟨hr,J,hs⟩=>⟨σ,J,hs,rfl,by rw [hr];exact aUj _ _,fun n cs h=> .inl h,hr,rfl⟩
theorem xS(l:List AT)(rest:List D)(i:Nat)(h:i<l.length):Ae false 1 ((l.flatMap cA++rest).drop (i * 2+1))=some (D.str l[i].value):=Us (f:=cA) (k:=2) (fun _=>rfl) l rest i 1 h (by decide)
@[simp] abbrev q32_3:Cfg:=⟨[2,3,12,14,16],[],[],[],[]⟩
theorem Fv(l:List AT)(σ:List (List D))(hl:l.length<=999999):Ct prog 107 [.sl false (l.map dA)] σ (fun r σ'=>r= .xs 2 ((iC nA l).map dA)/\σ'=σ):=by
  refine zf func107 ?_;refine zr q32_3 fun _ _ Z=>?_;simp(disch:=omega);apply Z;refine zr q32_3 fun _ _ Z=>?_;simp(disch:=omega);apply Z;apply aE;refine zr q32_3 fun _ _ Z=>?_;simp(disch:=omega);and_intros<;>(try omega);apply Z;apply aR;refine zk [2,3,6,7,8] ?_;refine Ch 3 2 (by simp <;> rfl) ?_;refine aY (fun(k:Nat)=> [(8,.d (.v (.int .i64 (k:Int)))),(3,.d (.xs 2 ((iC nA (l.take k)).map dA)))]) [3,5,8,9,10,11,12,13,14,15] (fun(k:Nat)=>k<=l.length) (fun(k:Nat)=>l.length - k) (0) (by simp <;> rfl) ?_ ?_ ?_
  . simp [iC]
  . simp
  rintro k hk;simp only [aQ,aO];have hol:=iI nA (l.take k);simp only [bG] at hol;refine zr q32_3 fun _ _ Z=>?_;simp(disch:=omega);apply Z;apply aE;refine zI ?_ ?_<;>intro c1<;>try simp at c1
  . apply jM
    refine zr q32_3 fun _ _ Z=>?_;simp(disch:=omega);and_intros<;>(try omega);apply Z;refine zt q32_3 fun _ _ Z=>?_;refine zs 2 fun _ Y=>?_;simp(disch:=omega);apply Y;refine aF fun _ Y=>?_;simp(disch:=omega);refine cT (aC6 (iC nA (l.take k)) l[k] _ (by omega) (gL nA _)) ?_;apply Y;simp(disch:=omega);apply Z;apply zB;refine zk [2,3,6,7,8] ?_;refine zt q32_3 fun _ _ Z=>?_;simp(disch:=omega);and_intros<;>(try omega);apply Z;refine zq (k+1) ?_ ?_ ?_
    . omega
    . try dsimp only
      omega
    simp(disch:=omega)[Jz]
  apply zE;refine zr q32_3 fun _ _ Z=>?_;simp(disch:=omega);apply Z;apply aC;simp [aH];rw [bZ (by omega)]
@[simp] abbrev q32_4:Cfg:=⟨[6,11],[],[],[21],[]⟩
theorem aLf(l:List AT)(c:ByteArray)(σ:List (List D))(hl:l.length<=999999):Ct prog 234 [.sl false (l.map dA),D.str c] σ (fun r σ'=>(∃v:ByteArray,r= .tup [D.str v,.bool (Lt nA (iC nA l) c)])/\∃J,σ'=σ++J):=by
  refine zf func234 ?_;have hol:=iI nA l;refine zr q32_4 fun _ _ Z=>?_;simp(disch:=omega)[aI,aG,xS];apply Z;refine zr q32_4 fun _ _ Z=>?_;refine zs 1 fun _ Y=>?_;simp(disch:=omega)[aI,aG,xS];apply Y;refine aF fun _ Y=>?_;simp(disch:=omega)[aI,aG,xS];refine cT (Fv l _ hl) ?_;apply Y;simp(disch:=omega)[aI,aG,xS];apply Z;apply aE;refine iL 6 2 rfl (by decide) fun cap rest hcap hcm hrest hk0 hes=>?_;subst hrest;simp only [bQ] at hcap |-;rw [cX (f:=cA) (fun _=>rfl)];refine zr q32_4 fun _ _ Z=>?_;refine zs 2 fun _ Y=>?_;simp(disch:=omega)[aI,aG,xS];apply Y;refine aF fun _ Y=>?_;simp(disch:=omega)[aI,aG,xS];refine cT (Qq σ.length cap (iC nA l) (List.replicate ((cap - (iC nA l).length) * 2) .any) c _ (by omega) (by simp [aI]) (gL nA l)) ?_;apply Y;simp(disch:=omega)[aI,aG,xS];apply Z;refine zk [4,5,6,7,8] ?_;refine zr q32_4 fun _ _ Z=>?_;simp(disch:=omega)[aI,aG,xS];apply Z;refine zI ?_ ?_<;>intro c1<;>try simp at c1
  . have hlt := Be nA c1
    refine zr q32_4 fun _ _ Z=>?_;simp(disch:=omega)[aI,aG,xS];and_intros<;>(try omega);apply Z;apply aC;simp [aH,c1]
  apply zA;refine zr q32_4 fun _ _ Z=>?_;simp(disch:=omega)[aI,aG,xS];apply Z;refine zr q32_4 fun _ _ Z=>?_;simp(disch:=omega)[aI,aG,xS];apply Z;apply aC;simp [aH,c1]
theorem aBh(l:List AT)(c:ByteArray)(σ:List (List D))(hl:l.length<=999999)(hs:Sorted nA l):Ct prog 234 [.sl false (l.map dA),D.str c] σ (fun r σ'=>(∃v:ByteArray,r= .tup [D.str v,.bool (mA nA l c)])/\σ'=σ):=
  (aLf l c σ hl).trim fun r σ' ⟨⟨v,hr⟩,J,hs'⟩=>⟨σ,J,hs',rfl,by rw [hr];exact Sc.tup fun d hd=>by simp at hd;rcases hd with rfl | rfl <;> exact Sc.v _,fun n cs h=> .inl h,⟨v,by rw [hr,rP nA hs,Iw nA hs]⟩,rfl⟩
theorem aOi(l:List AT)(c:ByteArray)(v:ByteArray)(σ:List (List D))(hl:l.length<=99999):Ct prog 182 [.sl false (l.map dA),D.str c,D.str v] σ (fun r σ'=>r= .xs 2 ((fU nA (iC nA l) ⟨c,v⟩).map dA)/\σ'=σ):=by
  refine zf func182 ?_;have hol:=iI nA l;refine zr ⟨[6,9,10,12],[],[],[],[]⟩ fun _ _ Z=>?_;simp;apply Z;refine zr ⟨[6,9,10,12],[],[],[],[]⟩ fun _ _ Z=>?_;refine zs 1 fun _ Y=>?_;simp;apply Y;refine aF fun _ Y=>?_;simp;refine cT (Fv l _ (by omega)) ?_;apply Y;refine zs 3 fun _ Y=>?_;simp;apply Y;refine aF fun _ Y=>?_;simp;refine cT (aC6 (iC nA l) ⟨c,v⟩ _ (by omega) (gL nA l)) ?_;apply Y;simp;apply Z;apply aC;simp [aH]
theorem aQf(l:List AT)(p:AT->Bool)(f:FuncId)(caps:List D)(σ:List (List D))(hl:l.length<=99999)(hcp:∀d∈caps,d.plain=true)(hcs:caps.map D.strip=caps)(hp:∀x τ,Ct prog f (dA x::caps) τ (fun r τ'=>r= .bool (p x)/\τ'=τ)):Ct prog 259 [.sl false (l.map dA),.clo (.func f) [] caps] σ (fun r σ'=>r= .xs 2 (((iC nA l).filter fun x=> !p x).map dA)/\σ'=σ):=by
  refine zf func259 ?_;have hol:=iI nA l;refine zr ⟨[4,7,8],[],[],[],[]⟩ fun _ _ Z=>?_;simp;apply Z;refine zr ⟨[4,7,8],[],[],[],[]⟩ fun _ _ Z=>?_;refine zs 1 fun _ Y=>?_;simp;apply Y;refine aF fun _ Y=>?_;simp;refine cT (Fv l _ (by omega)) ?_;apply Y;refine zs 1 fun _ Y=>?_;simp;apply Y;refine aF fun _ Y=>?_;simp;refine cT (aA3 (iC nA l) p f caps _ (by omega) hcp hcs hp) ?_;apply Y;simp;apply Z;apply aC;simp [aH]
theorem aG5(x:AT)(c:ByteArray)(σ:List (List D))  :Ct prog 260 [dA x,.adr [D.str c]] σ (fun r σ'=>r= .bool (decide (x.name=c))/\σ'=σ):=by
  refine zf func260 ?_;refine bB fun _ _ Z=>?_;simp;apply Z;refine bB fun _ _ Z=>?_;simp;apply Z;apply aC;simp[aH]
theorem aF9(l:List AT)(c:ByteArray)(σ:List (List D))(hl:l.length<=99999):Ct prog 235 [.sl false (l.map dA),D.str c] σ (fun r σ'=>r= .xs 2 ((lF nA (iC nA l) c).map dA)/\σ'=σ):=by
  refine zf func235 ?_;refine zr ⟨[4],[3],[],[],[]⟩ fun _ _ Z=>?_;simp;apply Z;refine zr ⟨[4],[3],[],[],[]⟩ fun _ _ Z=>?_;refine zs 2 fun _ Y=>?_;simp;and_intros<;>(try omega);apply Y;refine aF fun _ Y=>?_;simp;refine cT (aQf l (fun x=>decide (x.name=c)) 260 [.adr [D.str c]] _ hl (by simp) (by simp) (fun x τ=>aG5 x c τ)) ?_;apply Y;simp;apply Z;apply aC;simp [aH,lF]
theorem aCi(l:List AT)(c:ByteArray)(v:ByteArray)(σ:List (List D))(hl:l.length<=99999)(hs:Sorted nA l):Ct prog 182 [.sl false (l.map dA),D.str c,D.str v] σ (fun r σ'=>r= .sl false ((fU nA l ⟨c,v⟩).map dA)/\σ'=σ):=
  (aOi l c v σ hl).freeze fun r σ' h=>by rw [rP nA hs] at h;exact h
theorem aHw(l:List AT)(c:ByteArray)(σ:List (List D))(hl:l.length<=99999)(hs:Sorted nA l):Ct prog 235 [.sl false (l.map dA),D.str c] σ (fun r σ'=>r= .sl false ((lF nA l c).map dA)/\σ'=σ):=
  (aF9 l c σ hl).freeze fun r σ' h=>by rw [rP nA hs] at h;exact h
theorem aCj(x:PI)(s:ByteArray)(σ:List (List D))  :Ct prog 237 [cQ x,D.str s] σ (fun r σ'=>r= .int (Ji x.name s)/\σ'=σ):=by
  refine zf func237 ?_;refine bB fun _ _ Z=>?_;simp;apply Z;refine bB fun _ _ Z=>?_;refine zs 3 fun _ Y=>?_;simp;apply Y;refine aF fun _ Y=>?_;simp;refine cT (Kl x.name s _) ?_;apply Y;simp;apply Z;apply aC;simp [aH]
theorem aU0 (N cap : Nat) (l : List PI) (rest : List D) (c : ByteArray) (σ : List (List D)) (hl : l.length <= 1000000) (hN : σ[N]? = some (l.flatMap cP ++ rest)) (hs : Sorted nP l) : Ct prog 236 [.slo N 0 l.length cap, D.str c, .clo (.func 237) [] []] σ (fun r σ' => r = .tup [.int ((lI nP l c : Nat) : Int), .bool (Lt nP l c)] /\ σ' = σ) := by
  refine zf func236 ?_;refine zr q32_1 fun _ _ Z=>?_;simp(disch:=omega)[hN,eC,eE];apply Z;refine zr q32_1 fun _ _ Z=>?_;simp(disch:=omega)[hN,eC,eE];and_intros<;>(try omega);apply Z;refine zr q32_1 fun _ _ Z=>?_;simp(disch:=omega)[hN,eC,eE];apply Z;apply Od;refine zk [0,1,2,6,7,8,9,10] ?_;refine aY (fun(s:Nat×Nat)=> [(9,.d (.v (.int .i64 (s.1:Int)))),(10,.d (.v (.int .i64 (s.2:Int)))),(11,.d (.any))]) [9,10,11,15,16,17,18,19,20,21,22,23,24,25,26,27,28,29,30,31,32,33,34] (fun(s:Nat×Nat)=>s.1<=s.2/\s.2<=l.length/\(∀j (h:j<l.length),j<s.1->dS l[j].name c=true)/\(∀j (h:j<l.length),s.2<=j->dS l[j].name c=false)) (fun(s:Nat×Nat)=>s.2 - s.1) ((0,l.length)) (by simp <;> rfl) ?_ ?_ ?_
  . simp
  . exact⟨by omega,by omega,fun j h h2=>absurd h2 (by simp),fun j h h2=>absurd h2 (by simp;omega)⟩
  rintro⟨lo,hi⟩ ⟨h1,h2,h3,h4⟩;simp only [aQ,aO];dsimp only at h1 h2 h3 h4;have hmid:lo<hi->(lo+hi) / 2<hi:=fun h=>by omega
  apply aE;refine zr q32_1 fun _ _ Z=>?_;simp(disch:=omega)[hN,eC,eE];apply Z;refine zI ?_ ?_<;>intro c1<;>try simp at c1
  . apply zA
    apply aR;refine zk [0,1,2,6,7,8,9,10,11] ?_;refine zr q32_1 fun _ _ Z=>?_;simp(disch:=omega)[hN,eC,eE];and_intros<;>(try omega);apply Z;refine zk [0,1,2,6,7,8,9,10,11] ?_;refine zr q32_1 fun _ _ Z=>?_;refine zs 6 fun _ Y=>?_;simp(disch:=omega)[hN,eC,eE];and_intros<;>(try omega);apply Y;refine aF fun _ Y=>?_;simp(disch:=omega)[hN,eC,eE];refine cT (aCj l[(lo+hi) / 2] c _) ?_;apply Y;simp(disch:=omega)[hN,eC,eE];apply Z;refine zI ?_ ?_<;>intro c2<;>try simp at c2
    . refine zk [0,1,2,6,7,8,9,10,11] ?_
      refine zt q32_1 fun _ _ Z=>?_;simp(disch:=omega)[hN,eC,eE];and_intros<;>(try omega);apply Z;apply lL;refine zq (((lo+hi) / 2+1,hi)) ?_ ?_ ?_
      . exact⟨by dsimp only;omega,by dsimp only;omega,aR6 nP hs (by omega) (by simpa [Ky] using c2),h4⟩
      . try dsimp only
        omega
      simp(disch:=omega)[hN,eC,eE]
    refine zk [0,1,2,6,7,8,9,10,11] ?_;refine zt q32_1 fun _ _ Z=>?_;simp(disch:=omega)[hN,eC,eE];apply Z;apply lL;refine zq ((lo,(lo+hi) / 2)) ?_ ?_ ?_
    . exact⟨by dsimp only;omega,by dsimp only;omega,h3,aSm nP hs (by omega) ((aDa _ _).1 (by omega))⟩
    . try dsimp only
      omega
    simp(disch:=omega)[hN,eC,eE]
  obtain rfl:lo=hi:=by omega
  have hpos:lI nP l c=lo:=Qt nP l c lo h2 h3 (fun h=>h4 lo h (aW _));apply zE;refine zk [0,1,2,6,7,8,9] ?_;refine mH q32_1 fun all hall _ Z=>?_;have ga4:aN all 4=some 39:=hall 4;refine zs 5 fun _ Y=>?_;simp(disch:=omega)[hN,eC,eE,ga4];apply Y;refine zb 39 ?_ ?_<;>intro g3<;>try simp at g3
  . refine zs 6 fun _ Y=>?_
    simp(disch:=omega)[hN,eC,eE,ga4];and_intros<;>(try omega);apply Y;refine zg ga4 fun _ Y=>?_;simp(disch:=omega)[hN,eC,eE,ga4];refine cT (aCj l[lo] c _) ?_;apply Y;simp(disch:=omega)[hN,eC,eE,ga4];apply Z;apply aC;simp [aH,hpos,Sj, *];exact Pu _ _
  refine zs 8 fun _ Y=>?_;simp(disch:=omega)[hN,eC,eE,ga4];and_intros<;>(try omega);apply Y;simp(disch:=omega)[hN,eC,eE,ga4];apply Z;apply aC;simp [aH,hpos, *];exact It _ _ _ (by omega)
theorem Sa(N cap:Nat)(l:List PI)(rest:List D)(c:ByteArray)(σ:List (List D))(hl:l.length<=1000000)(hN:σ[N]?=some (l.flatMap cP++rest))(hs:Sorted nP l):Ct prog 201 [.slo N 0 l.length cap,D.str c] σ (fun r σ'=>r= .tup [.int ((lI nP l c:Nat):Int),.bool (Lt nP l c)]/\σ'=σ):=by
  refine zf func201 ?_;refine bB fun _ _ Z=>?_;simp[hN];apply Z;refine bB fun _ _ Z=>?_;refine zs 2 fun _ Y=>?_;simp[hN];apply Y;refine aF fun _ Y=>?_;simp[hN];refine cT (aU0 N cap l rest c _ hl hN hs) ?_;apply Y;simp[hN];apply Z;apply aC;simp [aH]
theorem aMm(l:List PI)(p:PI)(σ:List (List D))(hl:l.length<=999999)(hs:Sorted nP l):Ct prog 188 [.xs 2 (l.map cQ),cQ p] σ (fun r σ'=>r= .xs 2 ((fU nP l p).map cQ)/\∃J,σ'=σ++J):=by
  refine zf func188 ?_;refine iL 0 2 rfl (by decide) fun cap rest hcap hcm hrest hk0 hes=>?_;subst hrest;simp only [bQ] at hcap |-;rw [cX (f:=cP) (fun _=>rfl)];have hpl:=Qu nP l p.name;refine zr q32_2 fun _ _ Z=>?_;simp(disch:=omega)[aI,aG];apply Z;refine zr q32_2 fun _ _ Z=>?_;refine zs 3 fun _ Y=>?_;simp(disch:=omega)[aI,aG];apply Y;refine aF fun _ Y=>?_;simp(disch:=omega)[aI,aG];refine cT (Sa σ.length cap l (List.replicate ((cap - l.length) * 2) .any) p.name _ (by omega) (by simp [aI]) hs) ?_;apply Y;simp(disch:=omega)[aI,aG];apply Z;apply aE;refine zr q32_2 fun _ _ Z=>?_;simp(disch:=omega)[aI,aG];apply Z;refine zI ?_ ?_<;>intro c1<;>try simp at c1
  . have hlt := Be nP c1
    refine zk [0,3,4,5] ?_;refine zr q32_2 fun _ _ Z=>?_;simp(disch:=omega)[aI,aG];and_intros<;>(try omega);apply Z;refine zr q32_2 fun _ _ Z=>?_;simp(disch:=omega)[aI,aG];apply Z;refine fI 4 2 σ.length l.length cap ((l.set (lI nP l p.name) p).map cQ) ((l.set (lI nP l p.name) p).flatMap cP++List.replicate ((cap - l.length) * 2) .any) (by simp <;> rfl) (by simp [aI]) (by omega) (by simp only [aZ,dJ (f:=cP) (k:=2) (fun _=>rfl),cR,cK];omega) (by simp) (mR (d:=cQ) (fun _=>⟨rfl,rfl⟩) _) (by rw [cX (f:=cP) (fun _=>rfl)];exact dC _ _) ?_;apply aC;simp [aH,Bz,c1]
  apply zA;refine fI 0 2 σ.length l.length cap (l.map cQ) (l.flatMap cP++List.replicate ((cap - l.length) * 2) .any) (by simp <;> rfl) (by simp [aI]) (by omega) (by simp only [aZ,dJ (f:=cP) (k:=2) (fun _=>rfl),cR,cK];omega) (by simp) (mR (d:=cQ) (fun _=>⟨rfl,rfl⟩) _) (by rw [cX (f:=cP) (fun _=>rfl)];exact dC _ _) ?_;refine zk [0,3,4,5] ?_;refine zr q32_2 fun _ _ Z=>?_;refine zs 4 fun _ Y=>?_;simp(disch:=omega)[aI,aG];and_intros<;>(try omega);apply Y;refine aF fun _ Y=>?_;simp(disch:=omega)[aI,aG];refine cT (aRt l p (lI nP l p.name) _ (by omega) hpl) ?_;apply Y;simp(disch:=omega)[aI,aG];apply Z;apply aC;simp [aH,Bz,c1]
theorem aBd(l:List PI)(p:PI)(σ:List (List D))(hl:l.length<=999999)(hs:Sorted nP l):Ct prog 188 [.xs 2 (l.map cQ),cQ p] σ (fun r σ'=>r= .xs 2 ((fU nP l p).map cQ)/\σ'=σ):=
  (aMm l p σ hl hs).trim fun r σ' ⟨hr,J,hs⟩=>⟨σ,J,hs,rfl,by rw [hr];exact aS9 _ _,fun n cs h=> .inl h,hr,rfl⟩
theorem xL(l:List PI)(rest:List D)(i:Nat)(h:i<l.length):Ae false 1 ((l.flatMap cP++rest).drop (i * 2+1))=some (D.int l[i].value):=Us (f:=cP) (k:=2) (fun _=>rfl) l rest i 1 h (by decide)
theorem Gc(l:List PI)(σ:List (List D))(hl:l.length<=999999):Ct prog 108 [.sl false (l.map cQ)] σ (fun r σ'=>r= .xs 2 ((iC nP l).map cQ)/\σ'=σ):=by
  refine zf func108 ?_;refine zr q32_3 fun _ _ Z=>?_;simp(disch:=omega);apply Z;refine zr q32_3 fun _ _ Z=>?_;simp(disch:=omega);apply Z;apply aE;refine zr q32_3 fun _ _ Z=>?_;simp(disch:=omega);and_intros<;>(try omega);apply Z;apply aR;refine zk [2,3,6,7,8] ?_;refine Ch 3 2 (by simp <;> rfl) ?_;refine aY (fun(k:Nat)=> [(8,.d (.v (.int .i64 (k:Int)))),(3,.d (.xs 2 ((iC nP (l.take k)).map cQ)))]) [3,5,8,9,10,11,12,13,14,15] (fun(k:Nat)=>k<=l.length) (fun(k:Nat)=>l.length - k) (0) (by simp <;> rfl) ?_ ?_ ?_
  . simp [iC]
  . simp
  rintro k hk;simp only [aQ,aO];have hol:=iI nP (l.take k);simp only [bG] at hol;refine zr q32_3 fun _ _ Z=>?_;simp(disch:=omega);apply Z;apply aE;refine zI ?_ ?_<;>intro c1<;>try simp at c1
  . apply jM
    refine zr q32_3 fun _ _ Z=>?_;simp(disch:=omega);and_intros<;>(try omega);apply Z;refine zt q32_3 fun _ _ Z=>?_;refine zs 2 fun _ Y=>?_;simp(disch:=omega);apply Y;refine aF fun _ Y=>?_;simp(disch:=omega);refine cT (aBd (iC nP (l.take k)) l[k] _ (by omega) (gL nP _)) ?_;apply Y;simp(disch:=omega);apply Z;apply zB;refine zk [2,3,6,7,8] ?_;refine zt q32_3 fun _ _ Z=>?_;simp(disch:=omega);and_intros<;>(try omega);apply Z;refine zq (k+1) ?_ ?_ ?_
    . omega
    . try dsimp only
      omega
    simp(disch:=omega)[Jz]
  apply zE;refine zr q32_3 fun _ _ Z=>?_;simp(disch:=omega);apply Z;apply aC;simp [aH];rw [bZ (by omega)]
theorem aL0(l:List PI)(c:ByteArray)(σ:List (List D))(hl:l.length<=999999):Ct prog 239 [.sl false (l.map cQ),D.str c] σ (fun r σ'=>(∃v:Int,r= .tup [D.int v,.bool (Lt nP (iC nP l) c)])/\∃J,σ'=σ++J):=by
  refine zf func239 ?_;have hol:=iI nP l;refine zr q32_4 fun _ _ Z=>?_;simp(disch:=omega)[aI,aG,xL];apply Z;refine zr q32_4 fun _ _ Z=>?_;refine zs 1 fun _ Y=>?_;simp(disch:=omega)[aI,aG,xL];apply Y;refine aF fun _ Y=>?_;simp(disch:=omega)[aI,aG,xL];refine cT (Gc l _ hl) ?_;apply Y;simp(disch:=omega)[aI,aG,xL];apply Z;apply aE;refine iL 6 2 rfl (by decide) fun cap rest hcap hcm hrest hk0 hes=>?_;subst hrest;simp only [bQ] at hcap |-;rw [cX (f:=cP) (fun _=>rfl)];refine zr q32_4 fun _ _ Z=>?_;refine zs 2 fun _ Y=>?_;simp(disch:=omega)[aI,aG,xL];apply Y;refine aF fun _ Y=>?_;simp(disch:=omega)[aI,aG,xL];refine cT (Sa σ.length cap (iC nP l) (List.replicate ((cap - (iC nP l).length) * 2) .any) c _ (by omega) (by simp [aI]) (gL nP l)) ?_;apply Y;simp(disch:=omega)[aI,aG,xL];apply Z;refine zk [4,5,6,7,8] ?_;refine zr q32_4 fun _ _ Z=>?_;simp(disch:=omega)[aI,aG,xL];apply Z;refine zI ?_ ?_<;>intro c1<;>try simp at c1
  . have hlt := Be nP c1
    refine zr q32_4 fun _ _ Z=>?_;simp(disch:=omega)[aI,aG,xL];and_intros<;>(try omega);apply Z;apply aC;simp [aH,c1]
  apply zA;refine zr q32_4 fun _ _ Z=>?_;simp(disch:=omega)[aI,aG,xL];apply Z;refine zr q32_4 fun _ _ Z=>?_;simp(disch:=omega)[aI,aG,xL];apply Z;apply aC;simp [aH,c1]
theorem aCp(l:List PI)(c:ByteArray)(σ:List (List D))(hl:l.length<=999999)(hs:Sorted nP l):Ct prog 239 [.sl false (l.map cQ),D.str c] σ (fun r σ'=>(∃v:Int,r= .tup [D.int v,.bool (mA nP l c)])/\σ'=σ):=
  (aL0 l c σ hl).trim fun r σ' ⟨⟨v,hr⟩,J,hs'⟩=>⟨σ,J,hs',rfl,by rw [hr];exact Sc.tup fun d hd=>by simp at hd;rcases hd with rfl | rfl <;> exact Sc.v _,fun n cs h=> .inl h,⟨v,by rw [hr,rP nP hs,Iw nP hs]⟩,rfl⟩
theorem aKd(l:List PI)(c:ByteArray)(v:Int)(σ:List (List D))(hl:l.length<=99999):Ct prog 183 [.sl false (l.map cQ),D.str c,D.int v] σ (fun r σ'=>r= .xs 2 ((fU nP (iC nP l) ⟨c,v⟩).map cQ)/\σ'=σ):=by
  refine zf func183 ?_;have hol:=iI nP l;refine zr ⟨[6,9,10,12],[],[],[],[]⟩ fun _ _ Z=>?_;simp;apply Z;refine zr ⟨[6,9,10,12],[],[],[],[]⟩ fun _ _ Z=>?_;refine zs 1 fun _ Y=>?_;simp;apply Y;refine aF fun _ Y=>?_;simp;refine cT (Gc l _ (by omega)) ?_;apply Y;refine zs 3 fun _ Y=>?_;simp;apply Y;refine aF fun _ Y=>?_;simp;refine cT (aBd (iC nP l) ⟨c,v⟩ _ (by omega) (gL nP l)) ?_;apply Y;simp;apply Z;apply aC;simp [aH]
theorem aPm(l:List PI)(p:PI->Bool)(f:FuncId)(caps:List D)(σ:List (List D))(hl:l.length<=99999)(hcp:∀d∈caps,d.plain=true)(hcs:caps.map D.strip=caps)(hp:∀x τ,Ct prog f (cQ x::caps) τ (fun r τ'=>r= .bool (p x)/\τ'=τ)):Ct prog 261 [.sl false (l.map cQ),.clo (.func f) [] caps] σ (fun r σ'=>r= .xs 2 (((iC nP l).filter fun x=> !p x).map cQ)/\σ'=σ):=by
  refine zf func261 ?_;have hol:=iI nP l;refine zr ⟨[4,7,8],[],[],[],[]⟩ fun _ _ Z=>?_;simp;apply Z;refine zr ⟨[4,7,8],[],[],[],[]⟩ fun _ _ Z=>?_;refine zs 1 fun _ Y=>?_;simp;apply Y;refine aF fun _ Y=>?_;simp;refine cT (Gc l _ (by omega)) ?_;apply Y;refine zs 1 fun _ Y=>?_;simp;apply Y;refine aF fun _ Y=>?_;simp;refine cT (Yz (iC nP l) p f caps _ (by omega) hcp hcs hp) ?_;apply Y;simp;apply Z;apply aC;simp [aH]
theorem aD5(x:PI)(c:ByteArray)(σ:List (List D))  :Ct prog 262 [cQ x,.adr [D.str c]] σ (fun r σ'=>r= .bool (decide (x.name=c))/\σ'=σ):=by
  refine zf func262 ?_;refine bB fun _ _ Z=>?_;simp;apply Z;refine bB fun _ _ Z=>?_;simp;apply Z;apply aC;simp[aH]
theorem aHg(l:List PI)(c:ByteArray)(σ:List (List D))(hl:l.length<=99999):Ct prog 240 [.sl false (l.map cQ),D.str c] σ (fun r σ'=>r= .xs 2 ((lF nP (iC nP l) c).map cQ)/\σ'=σ):=by
  refine zf func240 ?_;refine zr ⟨[4],[3],[],[],[]⟩ fun _ _ Z=>?_;simp;apply Z;refine zr ⟨[4],[3],[],[],[]⟩ fun _ _ Z=>?_;refine zs 2 fun _ Y=>?_;simp;and_intros<;>(try omega);apply Y;refine aF fun _ Y=>?_;simp;refine cT (aPm l (fun x=>decide (x.name=c)) 262 [.adr [D.str c]] _ hl (by simp) (by simp) (fun x τ=>aD5 x c τ)) ?_;apply Y;simp;apply Z;apply aC;simp [aH,lF]
theorem Cj(l:List PI)(c:ByteArray)(v:Int)(σ:List (List D))(hl:l.length<=99999)(hs:Sorted nP l):Ct prog 183 [.sl false (l.map cQ),D.str c,D.int v] σ (fun r σ'=>r= .sl false ((fU nP l ⟨c,v⟩).map cQ)/\σ'=σ):=
  (aKd l c v σ hl).freeze fun r σ' h=>by rw [rP nP hs] at h;exact h
theorem aOe(l:List PI)(c:ByteArray)(σ:List (List D))(hl:l.length<=99999)(hs:Sorted nP l):Ct prog 240 [.sl false (l.map cQ),D.str c] σ (fun r σ'=>r= .sl false ((lF nP l c).map cQ)/\σ'=σ):=
  (aHg l c σ hl).freeze fun r σ' h=>by rw [rP nP hs] at h;exact h
end Go.Proofs.YtbgfljpnhhdkoaaGreat
