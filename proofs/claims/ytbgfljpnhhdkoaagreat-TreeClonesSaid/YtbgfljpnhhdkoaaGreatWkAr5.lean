import Derived.Test.YtbgfljpnhhdkoaaGreatWkAr4
set_option linter.all false
set_option maxRecDepth 20000
set_option maxHeartbeats 8000000
open Go.Proofs.Tryz
namespace Go.Proofs.YtbgfljpnhhdkoaaGreat
open Go Go.Vm
variable {a b c:ByteArray}
def dQ(a b:ByteArray):Bool:=Op.bytesLess a.toList b.toList
theorem Pk:∀a:List UInt8,Op.bytesLess a a=false
  | []=>rfl
  | a::x=>by simp [Op.bytesLess,Pk x]
theorem aUw {a b:UInt8} :a<b↔a.toNat<b.toNat:=Iff.rfl
theorem Vz:∀a b c:List UInt8,Op.bytesLess a b=true->Op.bytesLess b c=true->Op.bytesLess a c=true
  | [], [],_,h,_=>by simp [Op.bytesLess] at h
  | _::_, [],_,h,_=>by simp [Op.bytesLess] at h
  | [],_::_, [],_,h=>by simp [Op.bytesLess] at h
  | _::_,_::_, [],_,h=>by simp [Op.bytesLess] at h
  | [],_::_,_::_,_,_=>by simp [Op.bytesLess]
  | a :: x, b :: y, c :: z, h1, h2 => by
    simp only [Op.bytesLess,Fo,gO,fM,xX,aUw] at *;rcases h1 with h1 | ⟨rfl,h1⟩
    . rcases h2 with h2 | ⟨rfl, h2⟩
      . left;omega
      left;exact h1
    rcases h2 with h2 | ⟨rfl,h2⟩
    . left;exact h2
    right;exact⟨rfl,Vz x y z h1 h2⟩
theorem oP(a:ByteArray):dQ a a=false:=Pk _
theorem sS (h1:dQ a b=true)(h2:dQ b c=true):dQ a c=true:=Vz _ _ _ h1 h2
theorem We(a b:ByteArray):dQ a b=true\/a=b\/dQ b a=true:=by
  have h:=yM a.toList b.toList;unfold dQ;cases h1:Op.bytesLess a.toList b.toList with
  | true=>left;rfl
  | false =>
    rw [h1,Dp,qT] at h;cases h2:Op.bytesLess b.toList a.toList with
    | true=>right;right;rfl
    | false=>rw [h2] at h;right;left;simpa using h
theorem Jk (h:dQ a b=true):dQ b a=false:=by
  cases h2:dQ b a with
  | false=>rfl
  | true=>have:=sS h h2;rw [oP] at this;cases this
theorem qS (h:dQ a b=true):a≠b:=by rintro rfl;rw [oP] at h;cases h
theorem Ud (h:dQ a b=false)(hn:a≠b):dQ b a=true:=by
  rcases We a b with h1 | h1 | h1
  . rw [h1] at h;cases h
  . exact absurd h1 hn
  exact h1
def Ki(a b:ByteArray):Int:=if dQ a b=true then -1 else if dQ b a=true then 1 else 0
theorem Iy(a b:ByteArray):Ki a b<0↔dQ a b=true:=by
  unfold Ki;repeat' split
  all_goals simp_all
theorem aB6(a b:ByteArray):0<=Ki a b↔dQ a b=false:=by
  have:=Iy a b;rw [<- zC,<- this];omega
theorem Ox(a b:ByteArray):Ki a b=0↔a=b:=by
  unfold Ki
  repeat' split
  . rename_i h;simp;exact qS h
  . rename_i h;simp;exact fun e=>qS h e.symm
  rename_i h1 h2;simp only [true_iff];rcases We a b with h | h | h
  . exact absurd h h1
  . exact h
  exact absurd h h2
section
variable {α:Type} (nm:α->ByteArray)
def lE:List α->ByteArray->Nat
  | [],_=>0
  | q::l,c=>if dQ (nm q) c=true then lE l c+1 else 0
def Jy:List α->ByteArray->Bool
  | [],_=>false
  | q::l,c=>if dQ (nm q) c=true then Jy l c else decide (nm q=c)
def fQ:List α->α->List α
  | [],p=> [p]
  | q::l,p=>if dQ (nm q) (nm p)=true then q::fQ l p else if nm q=nm p then p::l else p::q::l
def Sorted(l:List α):Prop:=l.Pairwise fun a b=>dQ (nm a) (nm b)=true
def iB(l:List α):List α:=l.foldl (fQ nm) []
def lQ(l:List α)(c:ByteArray):Bool:=l.any fun p=>decide (nm p=c)
def lA(l:List α)(c:ByteArray):List α:=l.filter fun p=> !decide (nm p=c)
theorem Qy(l:List α)(c:ByteArray):lE nm l c<=l.length:=by
  induction l with
  | nil=>exact aV _
  | cons q l ih=>unfold lE;split <;> simp <;> omega
theorem Px:∀(l:List α) (c:ByteArray) (i:Nat),i<=l.length->(∀j (h:j<l.length),j<i->dQ (nm l[j]) c=true)->(∀h:i<l.length,dQ (nm l[i]) c=false)->lE nm l c=i
  | [],c,i,hi,_,_=>by simp at hi;subst hi;rfl
  | q :: l, c, 0, _, _, h2 => by
    have:=h2 (by simp);simp only [xQ] at this;simp [lE,this]
  | q :: l, c, i + 1, hi, h1, h2 => by
    have h0:=h1 0 (by simp) (by omega);simp only [xQ] at h0;have:=Px l c i (by simpa using hi) (fun j h hj=>h1 (j+1) (by simpa using h) (by omega)) (fun h=>h2 (by simpa using h));simp [lE,h0,this]
theorem Rw:∀(l:List α) (c:ByteArray) (h:lE nm l c<l.length),Jy nm l c=decide (nm l[lE nm l c]=c)
  | [],c,h=>by simp at h
  | q :: l, c, h => by
    by_cases e:dQ (nm q) c=true
    . have hp : lE nm (q :: l) c = lE nm l c + 1 := by simp [lE, e]
      have h':lE nm l c<l.length:=by rw [hp] at h;simpa using h
      have:=Rw l c h';simp only [Jy,e,aU,this,hp,Gf]
    have hp:lE nm (q::l) c=0:=by simp [lE,e]
    simp only [Jy,e,bJ,hp,xQ];rfl
theorem Ih:∀(l:List α) (c:ByteArray),lE nm l c=l.length->Jy nm l c=false
  | [],c,_=>rfl
  | q :: l, c, h => by
    by_cases e:dQ (nm q) c=true
    . have hp : lE nm (q :: l) c = lE nm l c + 1 := by simp [lE, e]
      simp only [Jy,e,aU];exact Ih l c (by rw [hp] at h;simpa using h)
    have hp:lE nm (q::l) c=0:=by simp [lE,e]
    rw [hp] at h;simp at h
theorem Ae {l:List α} (h:Jy nm l c=true):lE nm l c<l.length:=by
  have:=Qy nm l c;rcases uN (lE nm l c) l.length with h1 | h1
  . exact h1
  have:=Ih nm l c (by omega);rw [h] at this;cases this
theorem Dh:∀(l:List α) (p:α),fQ nm l p=if Jy nm l (nm p)=true then l.set (lE nm l (nm p)) p else fL l (lE nm l (nm p)) p
  | [],p=>rfl
  | q :: l, p => by
    by_cases e:dQ (nm q) (nm p)=true
    . have ih := Dh l p
      simp only [fQ,Jy,lE,e,aU,ih];split <;> simp [fL]
    simp only [fQ,Jy,lE,e,bJ];by_cases e2:nm q=nm p <;> simp [e2,fL]
theorem Cy(l:List α)(p:α):(fQ nm l p).length<=l.length+1:=by
  induction l with
  | nil=>simp [fQ]
  | cons q l ih => unfold fQ; repeat' split
                   all_goals simp
                   all_goals omega
theorem Dk {l:List α} {p x:α} (h:x∈fQ nm l p):x=p\/x∈l:=by
  induction l with
  | nil=>simp [fQ] at h;exact .inl h
  | cons q l ih =>
    unfold fQ at h;split at h
    . rcases bN.1 h with h | h
      . exact .inr (by simp [h])
      rcases ih h with h | h
      . exact .inl h
      exact .inr (by simp [h])
    split at h
    . rcases bN.1 h with h | h
      . exact .inl h
      exact .inr (by simp [h])
    rcases bN.1 h with h | h
    . exact .inl h
    exact .inr h
theorem mR {l:List α} (h:Sorted nm l)(p:α):Sorted nm (fQ nm l p):=by
  induction l with
  | nil=>simp [fQ,Sorted]
  | cons q l ih =>
    have h':=jB.1 h;unfold fQ;split
    . rename_i e
      refine jB.2 ⟨fun x hx=>?_,ih h'.2⟩;rcases Dk nm hx with rfl | hx
      . exact e
      exact h'.1 x hx
    rename_i e;split
    . rename_i e2
      exact jB.2 ⟨fun x hx=>by rw [<- e2];exact h'.1 x hx,h'.2⟩
    rename_i e2;have e3:=Ud (by simpa using e) e2;refine jB.2 ⟨fun x hx=>?_,h⟩;rcases bN.1 hx with rfl | hx
    . exact e3
    exact sS e3 (h'.1 x hx)
theorem wE(l:List α)(p:α):iB nm (l++ [p])=fQ nm (iB nm l) p:=by simp [iB,jL]
theorem Ku(l:List α)(k:Nat)(h:k<l.length):iB nm (l.take (k+1))=fQ nm (iB nm (l.take k)) l[k]:=by rw [bS l k h,wE]
theorem gK(l:List α):Sorted nm (iB nm l):=by
  induction l using pH with
  | h0=>simp [iB,Sorted]
  | h1 l x ih=>rw [wE];exact mR nm ih x
theorem jC(l:List α):(iB nm l).length<=l.length:=by
  induction l using pH with
  | h0=>simp [iB]
  | h1 l x ih=>rw [wE];have:=Cy nm (iB nm l) x;simp;omega
theorem aFg {l:List α} {p:α} (h:∀x∈l,dQ (nm x) (nm p)=true):fQ nm l p=l++ [p]:=by
  induction l with
  | nil=>rfl
  | cons q l ih =>
    have:=h q (by simp);simp only [fQ,this,aU,aQ];rw [ih fun x hx=>h x (by simp [hx])]
theorem rE {l:List α} (h:Sorted nm l):iB nm l=l:=by
  induction l using pH with
  | h0=>rfl
  | h1 l x ih =>
    have h':=Fw.1 h;rw [wE,ih h'.1,aFg nm fun y hy=>h'.2.2 y hy x (by simp)]
theorem Il {l:List α} (h:Sorted nm l)(c:ByteArray):Jy nm l c=lQ nm l c:=by
  induction l with
  | nil=>rfl
  | cons q l ih =>
    have h':=jB.1 h;unfold Jy lQ;simp only [List.any_cons];split
    . rename_i e
      rw [ih h'.2];have:¬nm q=c:=qS e;simp [this,lQ]
    rename_i e;have:(l.any fun p=>decide (nm p=c))=false:=by
      rw [qB];intro x hx;simp only [fM];rintro rfl;have:=h'.1 x hx;exact e this
    rw [this,zH]
theorem tF {l:List α} (h:Sorted nm l)(c:ByteArray):Sorted nm (lA nm l c):=Fh _ h
theorem Ch(l:List α)(c:ByteArray):(lA nm l c).length<=l.length:=kH _ _
theorem Ir {l:List α} (c:ByteArray):((lA nm l c).length=l.length)↔lQ nm l c=false:=by
  unfold lA lQ;rw [List.length_filter_eq_length_iff,qB];simp
theorem xO(l:List α)(c:ByteArray)(k:Nat)(h:k<l.length):lA nm (l.take (k+1)) c=lA nm (l.take k) c++if nm l[k]=c then [] else [l[k]]:=by
  unfold lA;rw [bS l k h,fY,gP];by_cases e:nm l[k]=c <;> simp [e]
theorem aRb {l:List α} {m:Nat} (hs:Sorted nm l)(hm:m<l.length)(h:dQ (nm l[m]) c=true):∀j (h:j<l.length),j<m+1->dQ (nm l[j]) c=true:=fun j hj hjm=>by
  rcases uN j m with h1 | h1
  . exact sS (qP.1 hs j m hj hm h1) h
  obtain rfl:j=m:=by omega
  exact h
theorem aQs {l:List α} {m:Nat} (hs:Sorted nm l)(hm:m<l.length)(h:dQ (nm l[m]) c=false):∀j (h:j<l.length),m<=j->dQ (nm l[j]) c=false:=fun j hj hjm=>by
  rcases uN m j with h1 | h1
  . have := qP.1 hs m j hm hj h1
    cases e:dQ (nm l[j]) c with
    | false=>rfl
    | true=>rw [sS this e] at h;cases h
  obtain rfl:j=m:=by omega
  exact h
def mJ(p:α)(s:List α×Bool)(x:α):List α×Bool:=
  let s1:=if s.2=false/\dQ (nm x) (nm p)=false then(s.1++ [p],true)else s
  if nm x=nm p then s1 else(s1.1++ [x],s1.2)
def rN(l:List α)(p:α):List α×Bool:=l.foldl (mJ nm p) ([],false)
def aCm(s:List α×Bool)(p:α):List α:=if s.2=true then s.1 else s.1++ [p]
theorem pW(l:List α)(p:α)(k:Nat)(h:k<l.length):rN nm (l.take (k+1)) p=mJ nm p (rN nm (l.take k) p) l[k]:=by
  unfold rN;rw [bS l k h,jL];rfl
theorem aDm(l:List α)(p:α):(rN nm l p).1.length<=l.length+(if(rN nm l p).2=true then 1 else 0):=by
  induction l using pH with
  | h0=>simp [rN]
  | h1 l x ih =>
    have e:rN nm (l++ [x]) p=mJ nm p (rN nm l p) x:=by unfold rN;rw [jL];rfl
    rw [e];generalize rN nm l p=s at ih;obtain⟨o,b⟩:=s;unfold mJ;cases b <;> by_cases e1:dQ (nm x) (nm p)=false <;> by_cases e2:nm x=nm p <;> simp_all <;> omega
theorem Kf(p:α):∀(l o:List α),(l.foldl (mJ nm p) (o,true))=(o++lA nm l (nm p),true)
  | [],o=>by simp [lA]
  | x :: l, o => by
    rw [dM];have e:mJ nm p (o,true) x=(if nm x=nm p then o else o++ [x],true):=by
      unfold mJ;simp;split <;> rfl
    rw [e,Kf p l];unfold lA;by_cases e2:nm x=nm p <;> simp [e2]
theorem Hi (p : α) : ∀ (l o : List α), Sorted nm l -> aCm (l.foldl (mJ nm p) (o, false)) p = o ++ fQ nm l p
  | [],o,_=>by simp [aCm,fQ]
  | x :: l, o, h => by
    have h':=jB.1 h;rw [dM];by_cases e1:dQ (nm x) (nm p)=true
    . have e : mJ nm p (o, false) x = (o ++ [x], false) := by
        unfold mJ;simp [e1,qS e1]
      rw [e,Hi p l _ h'.2];simp [fQ,e1]
    have e1':dQ (nm x) (nm p)=false:=by simpa using e1
    have hid:∀y∈l,nm y≠nm p:=fun y hy hp=>e1 (by have:=h'.1 y hy;rw [hp] at this;exact this);have hdel:lA nm l (nm p)=l:=by
      unfold lA;rw [nL];intro y hy;simp [hid y hy]
    have e:mJ nm p (o,false) x=(if nm x=nm p then o++ [p] else o++ [p]++ [x],true):=by
      unfold mJ;simp [e1'];split <;> rfl
    rw [e,Kf,hdel];by_cases e2:nm x=nm p <;> simp [aCm,fQ,e1,e2,oP]
theorem Of {l:List α} (h:Sorted nm l)(p:α):aCm (rN nm l p) p=fQ nm l p:=by
  have:=Hi nm p l [] h;simpa [rN] using this
def rK(out:List α)(c:ByteArray):Bool:=match out.getLast? with | none=>true | some q=>dQ (nm q) c
def Md(l out:List α):Option α:=((iB nm l).filter fun p=>rK nm out (nm p)).head?
theorem Vx {g:ByteArray->Bool} (hup:∀a b,dQ a b=true->g a=true->g b=true):∀(l:List α) (p:α),(fQ nm l p).filter (fun q=>g (nm q))=if g (nm p)=true then fQ nm (l.filter fun q=>g (nm q)) p else l.filter fun q=>g (nm q)
  | [],p=>by by_cases e:g (nm p)=true <;> simp [fQ,e]
  | q :: l, p => by
    have ih:=Vx hup l p;by_cases e:dQ (nm q) (nm p)=true
    . simp only [fQ, e, aU, gP, ih]
      by_cases e1:g (nm q)=true <;> by_cases e2:g (nm p)=true <;> simp [e1,e2,fQ,e]
    by_cases e3:nm q=nm p
    . simp only [fQ, e, e3, aU, bJ, gP]
      by_cases e2:g (nm p)=true
      . simp [e2,fQ,e3,oP]
      simp [e2,oP]
    simp only [fQ,e,e3,bJ,gP];have e4:=Ud (by simpa using e) e3;by_cases e2:g (nm p)=true
    . have e1 := hup _ _ e4 e2
      simp [e1,e2,fQ,e,e3]
    by_cases e1:g (nm q)=true <;> simp [e1,e2,fQ,e,e3]
theorem aLv(out:List α):∀a b,dQ a b=true->rK nm out a=true->rK nm out b=true:=by
  intro a b h1 h2;unfold rK at *;split
  . rfl
  rename_i q hq;rw [hq] at h2;exact sS h2 h1
theorem aD4(l out:List α)(k:Nat)(h:k<l.length):Md nm (l.take (k+1)) out=if rK nm out (nm l[k])=true then(match Md nm (l.take k) out with | none=>some l[k] | some q=>if dQ (nm q) (nm l[k])=true then some q else some l[k])else Md nm (l.take k) out:=by
  unfold Md;rw [Ku nm l k h,Vx nm (aLv nm out)];split
  . cases (iB nm (l.take k)).filter fun p => rK nm out (nm p) with
    | nil=>rfl
    | cons q r =>
      simp only [fQ,List.head?_cons]
      repeat' split
      all_goals rfl
  rfl
theorem aSo(l out:List α):Md nm (l.take 0) out=none:=by simp [Md,iB]
theorem aJo (l : List α) (k : Nat) (hk : k <= (iB nm l).length) : Md nm l ((iB nm l).take k) = (iB nm l)[k]? := by
  have hs := gK nm l;unfold Md;generalize iB nm l = S at *;have hd : (S.filter fun p => rK nm (S.take k) (nm p)) = S.drop k := by
    cases k with
    | zero=>simp [rK]
    | succ k =>
      have hl:(S.take (k+1)).getLast?=some S[k]:=by rw [bS S k (by omega),List.getLast?_concat]
      have hg:∀p,rK nm (S.take (k+1)) (nm p)=dQ (nm S[k]) (nm p):=fun p=>by unfold rK;rw [hl]
      simp only [hg];have hsplit:∀q:α->Bool,S.filter q=(S.take (k+1)).filter q++(S.drop (k+1)).filter q:=fun q=>by rw [<- fY,eO]
      rw [hsplit];have hp:(S.take (k+1)++S.drop (k+1)).Pairwise fun a b=>dQ (nm a) (nm b)=true:=by rw [eO];exact hs
      have h3:=Fw.1 hp;have hmem:S[k]∈S.take (k+1):=by rw [bS S k (by omega)];exact yA _ (fK.2 rfl)
      have f2:(S.drop (k+1)).filter (fun p=>dQ (nm S[k]) (nm p))=S.drop (k+1):=by
        rw [nL];exact fun x hx=>h3.2.2 _ hmem x hx
      have f1:(S.take (k+1)).filter (fun p=>dQ (nm S[k]) (nm p))= []:=by
        rw [sE];intro x hx;rw [bS S k (by omega)] at hx h3;rcases bR.1 hx with hx | hx
        . have := (Fw.1 h3.1).2.2 x hx S[k] (by simp)
          rw [Jk this];simp
        simp at hx;subst hx;rw [oP];simp
      rw [f1,f2,aP]
  rw [hd,qL]
end
abbrev nA:AT->ByteArray:=AT.name
abbrev nP:PI->ByteArray:=PI.name
theorem dW(a b:Nat):Int.fdiv ((a:Int)+(b:Int)) (2 ^ min 1 IntKind.u64.bits)=(((a+b) / 2:Nat):Int):=by
  have e:(2:Int) ^ min 1 IntKind.u64.bits=2:=by decide
  rw [e,Int.fdiv_eq_ediv_of_nonneg _ (by omega)];omega
theorem aPz:IntKind.u64.min=0:=rfl
theorem aO7:IntKind.u64.max=18446744073709551615:=by decide
theorem dV(n:Int):inR .u64 n=(0<=n/\n<=18446744073709551615):=by
  show(IntKind.u64.min<=n/\n<=IntKind.u64.max)=_
  rw [aPz,aO7]
theorem Vj(s:ByteArray)(σ:List (List D))  :Ct prog 258 [D.str s] σ (fun r σ'=>r= .bool false/\σ'=σ):=by
  refine zf func258 ?_;refine bF fun _ _ Z=>?_;simp;apply Z;refine bF fun _ _ Z=>?_;simp;apply Z;apply aC;simp [aH]
theorem Kk(a b:ByteArray)(σ:List (List D))  :Ct prog 233 [D.str a,D.str b] σ (fun r σ'=>r= .int (Ki a b)/\σ'=σ):=by
  refine zf func233 ?_;refine bF fun _ _ Z=>?_;simp;apply Z;refine bF fun _ _ Z=>?_;refine zs 1 fun _ Y=>?_;simp;apply Y;refine aF fun _ Y=>?_;simp;refine cU (Vj a _) ?_;apply Y;simp;apply Z;refine bF fun _ _ Z=>?_;refine zs 1 fun _ Y=>?_;simp;apply Y;refine aF fun _ Y=>?_;simp;refine cU (Vj b _) ?_;apply Y;simp;apply Z;apply aE;refine bF fun _ _ Z=>?_;simp;apply Z;refine zI ?_ ?_<;>intro c1<;>try simp at c1
  apply zA;apply aE;refine bF fun _ _ Z=>?_;simp;apply Z;refine zI ?_ ?_<;>intro c2<;>try simp at c2
  apply zA;apply aE;refine bF fun _ _ Z=>?_;simp;apply Z;refine zI ?_ ?_<;>intro c3<;>try simp at c3
  . refine zk [0,1,4] ?_
    refine bF fun _ _ Z=>?_;simp;apply Z;apply aC;simp [aH,Ki,dQ, *]
  apply zA;apply aE;refine zk [0,1,4] ?_;refine bF fun _ _ Z=>?_;simp;apply Z;refine zI ?_ ?_<;>intro c4<;>try simp at c4
  . refine bF fun _ _ Z=>?_
    simp;apply Z;apply aC;simp [aH,Ki,dQ, *]
  apply zA;refine bF fun _ _ Z=>?_;simp;apply Z;apply aC;simp [aH,Ki,dQ, *]
theorem aAv(x:AT)(s:ByteArray)(σ:List (List D))  :Ct prog 232 [cY x,D.str s] σ (fun r σ'=>r= .int (Ki x.name s)/\σ'=σ):=by
  refine zf func232 ?_;refine bF fun _ _ Z=>?_;simp;apply Z;refine bF fun _ _ Z=>?_;refine zs 3 fun _ Y=>?_;simp;apply Y;refine aF fun _ Y=>?_;simp;refine cU (Kk x.name s _) ?_;apply Y;simp;apply Z;apply aC;simp [aH]
@[simp] abbrev q31_1:Cfg:=⟨[],[],[],[13,27,43],[]⟩
theorem aR6 (N cap : Nat) (l : List AT) (rest : List D) (c : ByteArray) (σ : List (List D)) (hl : l.length <= 1000000) (hN : σ[N]? = some (l.flatMap cA ++ rest)) (hs : Sorted nA l) : Ct prog 231 [.slo N 0 l.length cap, D.str c, .clo (.func 232) [] []] σ (fun r σ' => r = .tup [.int ((lE nA l c : Nat) : Int), .bool (Jy nA l c)] /\ σ' = σ) := by
  refine zf func231 ?_;refine zr q31_1 fun _ _ Z=>?_;simp(disch:=omega)[hN,dW,dV];apply Z;refine zr q31_1 fun _ _ Z=>?_;simp(disch:=omega)[hN,dW,dV];and_intros<;>(try omega);apply Z;refine zr q31_1 fun _ _ Z=>?_;simp(disch:=omega)[hN,dW,dV];apply Z;apply Sl;refine zk [0,1,2,6,7,8,9,10] ?_;refine bA (fun(s:Nat×Nat)=> [(9,.d (.v (.int .i64 (s.1:Int)))),(10,.d (.v (.int .i64 (s.2:Int)))),(11,.d (.any))]) [9,10,11,15,16,17,18,19,20,21,22,23,24,25,26,27,28,29,30,31,32,33,34] (fun(s:Nat×Nat)=>s.1<=s.2/\s.2<=l.length/\(∀j (h:j<l.length),j<s.1->dQ l[j].name c=true)/\(∀j (h:j<l.length),s.2<=j->dQ l[j].name c=false)) (fun(s:Nat×Nat)=>s.2 - s.1) ((0,l.length)) (by simp <;> rfl) ?_ ?_ ?_
  . simp
  . exact⟨by omega,by omega,fun j h h2=>absurd h2 (by simp),fun j h h2=>absurd h2 (by simp;omega)⟩
  rintro⟨lo,hi⟩ ⟨h1,h2,h3,h4⟩;simp only [aQ,aP];dsimp only at h1 h2 h3 h4;have hmid:lo<hi->(lo+hi) / 2<hi:=fun h=>by omega
  apply aE;refine zr q31_1 fun _ _ Z=>?_;simp(disch:=omega)[hN,dW,dV];apply Z;refine zI ?_ ?_<;>intro c1<;>try simp at c1
  . apply zA
    apply aR;refine zk [0,1,2,6,7,8,9,10,11] ?_;refine zr q31_1 fun _ _ Z=>?_;simp(disch:=omega)[hN,dW,dV];and_intros<;>(try omega);apply Z;refine zk [0,1,2,6,7,8,9,10,11] ?_;refine zr q31_1 fun _ _ Z=>?_;refine zs 6 fun _ Y=>?_;simp(disch:=omega)[hN,dW,dV];and_intros<;>(try omega);apply Y;refine aF fun _ Y=>?_;simp(disch:=omega)[hN,dW,dV];refine cU (aAv l[(lo+hi) / 2] c _) ?_;apply Y;simp(disch:=omega)[hN,dW,dV];apply Z;refine zI ?_ ?_<;>intro c2<;>try simp at c2
    . refine zk [0,1,2,6,7,8,9,10,11] ?_
      refine zt q31_1 fun _ _ Z=>?_;simp(disch:=omega)[hN,dW,dV];and_intros<;>(try omega);apply Z;apply kV;refine zq (((lo+hi) / 2+1,hi)) ?_ ?_ ?_
      . exact⟨by dsimp only;omega,by dsimp only;omega,aRb nA hs (by omega) (by simpa [Iy] using c2),h4⟩
      . try dsimp only
        omega
      simp(disch:=omega)[hN,dW,dV]
    refine zk [0,1,2,6,7,8,9,10,11] ?_;refine zt q31_1 fun _ _ Z=>?_;simp(disch:=omega)[hN,dW,dV];apply Z;apply kV;refine zq ((lo,(lo+hi) / 2)) ?_ ?_ ?_
    . exact⟨by dsimp only;omega,by dsimp only;omega,h3,aQs nA hs (by omega) ((aB6 _ _).1 (by omega))⟩
    . try dsimp only
      omega
    simp(disch:=omega)[hN,dW,dV]
  obtain rfl:lo=hi:=by omega
  have hpos:lE nA l c=lo:=Px nA l c lo h2 h3 (fun h=>h4 lo h (aV _));apply zE;refine zk [0,1,2,6,7,8,9] ?_;refine mK q31_1 fun all hall _ Z=>?_;have ga4:aO all 4=some 39:=hall 4;refine zs 5 fun _ Y=>?_;simp(disch:=omega)[hN,dW,dV,ga4];apply Y;refine zb 39 ?_ ?_<;>intro g3<;>try simp at g3
  . refine zs 6 fun _ Y=>?_
    simp(disch:=omega)[hN,dW,dV,ga4];and_intros<;>(try omega);apply Y;refine zg ga4 fun _ Y=>?_;simp(disch:=omega)[hN,dW,dV,ga4];refine cU (aAv l[lo] c _) ?_;apply Y;simp(disch:=omega)[hN,dW,dV,ga4];apply Z;apply aC;simp [aH,hpos,Rw, *];exact Ox _ _
  refine zs 8 fun _ Y=>?_;simp(disch:=omega)[hN,dW,dV,ga4];and_intros<;>(try omega);apply Y;simp(disch:=omega)[hN,dW,dV,ga4];apply Z;apply aC;simp [aH,hpos, *];exact Ih _ _ _ (by omega)
theorem Rz(N cap:Nat)(l:List AT)(rest:List D)(c:ByteArray)(σ:List (List D))(hl:l.length<=1000000)(hN:σ[N]?=some (l.flatMap cA++rest))(hs:Sorted nA l):Ct prog 198 [.slo N 0 l.length cap,D.str c] σ (fun r σ'=>r= .tup [.int ((lE nA l c:Nat):Int),.bool (Jy nA l c)]/\σ'=σ):=by
  refine zf func198 ?_;refine bF fun _ _ Z=>?_;simp[hN];apply Z;refine bF fun _ _ Z=>?_;refine zs 2 fun _ Y=>?_;simp[hN];apply Y;refine aF fun _ Y=>?_;simp[hN];refine cU (aR6 N cap l rest c _ hl hN hs) ?_;apply Y;simp[hN];apply Z;apply aC;simp [aH]
@[simp] abbrev q31_2:Cfg:=⟨[4,19,20,24],[],[],[18],[]⟩
theorem aI4(l:List AT)(p:AT)(σ:List (List D))(hl:l.length<=999999)(hs:Sorted nA l):Ct prog 187 [.xs 2 (l.map cY),cY p] σ (fun r σ'=>r= .xs 2 ((fQ nA l p).map cY)/\∃J,σ'=σ++J):=by
  refine zf func187 ?_;refine iO 0 2 rfl (by decide) fun cap rest hcap hcm hrest hk0 hes=>?_;subst hrest;simp only [bQ] at hcap |-;rw [cT (f:=cA) (fun _=>rfl)];have hpl:=Qy nA l p.name;refine zr q31_2 fun _ _ Z=>?_;simp(disch:=omega)[aJ,aG];apply Z;refine zr q31_2 fun _ _ Z=>?_;refine zs 3 fun _ Y=>?_;simp(disch:=omega)[aJ,aG];apply Y;refine aF fun _ Y=>?_;simp(disch:=omega)[aJ,aG];refine cU (Rz σ.length cap l (List.replicate ((cap - l.length) * 2) .any) p.name _ (by omega) (by simp [aJ]) hs) ?_;apply Y;simp(disch:=omega)[aJ,aG];apply Z;apply aE;refine zr q31_2 fun _ _ Z=>?_;simp(disch:=omega)[aJ,aG];apply Z;refine zI ?_ ?_<;>intro c1<;>try simp at c1
  . have hlt := Ae nA c1
    refine zk [0,3,4,5] ?_;refine zr q31_2 fun _ _ Z=>?_;simp(disch:=omega)[aJ,aG];and_intros<;>(try omega);apply Z;refine zr q31_2 fun _ _ Z=>?_;simp(disch:=omega)[aJ,aG];apply Z;refine fD 4 2 σ.length l.length cap ((l.set (lE nA l p.name) p).map cY) ((l.set (lE nA l p.name) p).flatMap cA++List.replicate ((cap - l.length) * 2) .any) (by simp <;> rfl) (by simp [aJ]) (by omega) (by simp only [aY,dI (f:=cA) (k:=2) (fun _=>rfl),cO,bY];omega) (by simp) (mH (d:=cY) (fun _=>⟨rfl,rfl⟩) _) (by rw [cT (f:=cA) (fun _=>rfl)];exact cZ _ _) ?_;apply aC;simp [aH,Dh,c1]
  apply zA;refine fD 0 2 σ.length l.length cap (l.map cY) (l.flatMap cA++List.replicate ((cap - l.length) * 2) .any) (by simp <;> rfl) (by simp [aJ]) (by omega) (by simp only [aY,dI (f:=cA) (k:=2) (fun _=>rfl),cO,bY];omega) (by simp) (mH (d:=cY) (fun _=>⟨rfl,rfl⟩) _) (by rw [cT (f:=cA) (fun _=>rfl)];exact cZ _ _) ?_;refine zk [0,3,4,5] ?_;refine zr q31_2 fun _ _ Z=>?_;refine zs 4 fun _ Y=>?_;simp(disch:=omega)[aJ,aG];and_intros<;>(try omega);apply Y;refine aF fun _ Y=>?_;simp(disch:=omega)[aJ,aG];refine cU (aPo l p (lE nA l p.name) _ (by omega) hpl) ?_;apply Y;simp(disch:=omega)[aJ,aG];apply Z;apply aC;simp [aH,Dh,c1]
theorem aBf(l:List AT)(p:AT)(σ:List (List D))(hl:l.length<=999999)(hs:Sorted nA l):Ct prog 187 [.xs 2 (l.map cY),cY p] σ (fun r σ'=>r= .xs 2 ((fQ nA l p).map cY)/\σ'=σ):=
  (aI4 l p σ hl hs).trim fun r σ' ⟨hr,J,hs⟩=>⟨σ,J,hs,rfl,by rw [hr];exact aS3 _ _,fun n cs h=> .inl h,hr,rfl⟩
theorem wJ(l:List AT)(rest:List D)(i:Nat)(h:i<l.length):zN false 1 ((l.flatMap cA++rest).drop (i * 2+1))=some (D.str l[i].value):=Ul (f:=cA) (k:=2) (fun _=>rfl) l rest i 1 h (by decide)
@[simp] abbrev q31_3:Cfg:=⟨[2,3,12,14,16],[],[],[],[]⟩
theorem Gk(l:List AT)(σ:List (List D))(hl:l.length<=999999):Ct prog 107 [.sl false (l.map cY)] σ (fun r σ'=>r= .xs 2 ((iB nA l).map cY)/\σ'=σ):=by
  refine zf func107 ?_;refine zr q31_3 fun _ _ Z=>?_;simp(disch:=omega);apply Z;refine zr q31_3 fun _ _ Z=>?_;simp(disch:=omega);apply Z;apply aE;refine zr q31_3 fun _ _ Z=>?_;simp(disch:=omega);and_intros<;>(try omega);apply Z;apply aR;refine zk [2,3,6,7,8] ?_;refine Bz 3 2 (by simp <;> rfl) ?_;refine bA (fun(k:Nat)=> [(8,.d (.v (.int .i64 (k:Int)))),(3,.d (.xs 2 ((iB nA (l.take k)).map cY)))]) [3,5,8,9,10,11,12,13,14,15] (fun(k:Nat)=>k<=l.length) (fun(k:Nat)=>l.length - k) (0) (by simp <;> rfl) ?_ ?_ ?_
  . simp [iB]
  . simp
  rintro k hk;simp only [aQ,aP];have hol:=jC nA (l.take k);simp only [bG] at hol;refine zr q31_3 fun _ _ Z=>?_;simp(disch:=omega);apply Z;apply aE;refine zI ?_ ?_<;>intro c1<;>try simp at c1
  . apply kP
    refine zr q31_3 fun _ _ Z=>?_;simp(disch:=omega);and_intros<;>(try omega);apply Z;refine zt q31_3 fun _ _ Z=>?_;refine zs 2 fun _ Y=>?_;simp(disch:=omega);apply Y;refine aF fun _ Y=>?_;simp(disch:=omega);refine cU (aBf (iB nA (l.take k)) l[k] _ (by omega) (gK nA _)) ?_;apply Y;simp(disch:=omega);apply Z;apply zB;refine zk [2,3,6,7,8] ?_;refine zt q31_3 fun _ _ Z=>?_;simp(disch:=omega);and_intros<;>(try omega);apply Z;refine zq (k+1) ?_ ?_ ?_
    . omega
    . try dsimp only
      omega
    simp(disch:=omega)[Ku]
  apply zE;refine zr q31_3 fun _ _ Z=>?_;simp(disch:=omega);apply Z;apply aC;simp [aH];rw [cC (by omega)]
@[simp] abbrev q31_4:Cfg:=⟨[6,11],[],[],[21],[]⟩
theorem aIy(l:List AT)(c:ByteArray)(σ:List (List D))(hl:l.length<=999999):Ct prog 234 [.sl false (l.map cY),D.str c] σ (fun r σ'=>(∃v:ByteArray,r= .tup [D.str v,.bool (Jy nA (iB nA l) c)])/\∃J,σ'=σ++J):=by
  refine zf func234 ?_;have hol:=jC nA l;refine zr q31_4 fun _ _ Z=>?_;simp(disch:=omega)[aJ,aG,wJ];apply Z;refine zr q31_4 fun _ _ Z=>?_;refine zs 1 fun _ Y=>?_;simp(disch:=omega)[aJ,aG,wJ];apply Y;refine aF fun _ Y=>?_;simp(disch:=omega)[aJ,aG,wJ];refine cU (Gk l _ hl) ?_;apply Y;simp(disch:=omega)[aJ,aG,wJ];apply Z;apply aE;refine iO 6 2 rfl (by decide) fun cap rest hcap hcm hrest hk0 hes=>?_;subst hrest;simp only [bQ] at hcap |-;rw [cT (f:=cA) (fun _=>rfl)];refine zr q31_4 fun _ _ Z=>?_;refine zs 2 fun _ Y=>?_;simp(disch:=omega)[aJ,aG,wJ];apply Y;refine aF fun _ Y=>?_;simp(disch:=omega)[aJ,aG,wJ];refine cU (Rz σ.length cap (iB nA l) (List.replicate ((cap - (iB nA l).length) * 2) .any) c _ (by omega) (by simp [aJ]) (gK nA l)) ?_;apply Y;simp(disch:=omega)[aJ,aG,wJ];apply Z;refine zk [4,5,6,7,8] ?_;refine zr q31_4 fun _ _ Z=>?_;simp(disch:=omega)[aJ,aG,wJ];apply Z;refine zI ?_ ?_<;>intro c1<;>try simp at c1
  . have hlt := Ae nA c1
    refine zr q31_4 fun _ _ Z=>?_;simp(disch:=omega)[aJ,aG,wJ];and_intros<;>(try omega);apply Z;apply aC;simp [aH,c1]
  apply zA;refine zr q31_4 fun _ _ Z=>?_;simp(disch:=omega)[aJ,aG,wJ];apply Z;refine zr q31_4 fun _ _ Z=>?_;simp(disch:=omega)[aJ,aG,wJ];apply Z;apply aC;simp [aH,c1]
theorem aAq(l:List AT)(c:ByteArray)(σ:List (List D))(hl:l.length<=999999)(hs:Sorted nA l):Ct prog 234 [.sl false (l.map cY),D.str c] σ (fun r σ'=>(∃v:ByteArray,r= .tup [D.str v,.bool (lQ nA l c)])/\σ'=σ):=
  (aIy l c σ hl).trim fun r σ' ⟨⟨v,hr⟩,J,hs'⟩=>⟨σ,J,hs',rfl,by rw [hr];exact Sc.tup fun d hd=>by simp at hd;rcases hd with rfl | rfl <;> exact Sc.v _,fun n cs h=> .inl h,⟨v,by rw [hr,rE nA hs,Il nA hs]⟩,rfl⟩
theorem aLe(l:List AT)(c:ByteArray)(v:ByteArray)(σ:List (List D))(hl:l.length<=99999):Ct prog 182 [.sl false (l.map cY),D.str c,D.str v] σ (fun r σ'=>r= .xs 2 ((fQ nA (iB nA l) ⟨c,v⟩).map cY)/\σ'=σ):=by
  refine zf func182 ?_;have hol:=jC nA l;refine zr ⟨[6,9,10,12],[],[],[],[]⟩ fun _ _ Z=>?_;simp;apply Z;refine zr ⟨[6,9,10,12],[],[],[],[]⟩ fun _ _ Z=>?_;refine zs 1 fun _ Y=>?_;simp;apply Y;refine aF fun _ Y=>?_;simp;refine cU (Gk l _ (by omega)) ?_;apply Y;refine zs 3 fun _ Y=>?_;simp;apply Y;refine aF fun _ Y=>?_;simp;refine cU (aBf (iB nA l) ⟨c,v⟩ _ (by omega) (gK nA l)) ?_;apply Y;simp;apply Z;apply aC;simp [aH]
theorem aPq(l:List AT)(p:AT->Bool)(f:FuncId)(caps:List D)(σ:List (List D))(hl:l.length<=99999)(hcp:∀d∈caps,d.plain=true)(hcs:caps.map D.strip=caps)(hp:∀x τ,Ct prog f (cY x::caps) τ (fun r τ'=>r= .bool (p x)/\τ'=τ)):Ct prog 259 [.sl false (l.map cY),.clo (.func f) [] caps] σ (fun r σ'=>r= .xs 2 (((iB nA l).filter fun x=> !p x).map cY)/\σ'=σ):=by
  refine zf func259 ?_;have hol:=jC nA l;refine zr ⟨[4,7,8],[],[],[],[]⟩ fun _ _ Z=>?_;simp;apply Z;refine zr ⟨[4,7,8],[],[],[],[]⟩ fun _ _ Z=>?_;refine zs 1 fun _ Y=>?_;simp;apply Y;refine aF fun _ Y=>?_;simp;refine cU (Gk l _ (by omega)) ?_;apply Y;refine zs 1 fun _ Y=>?_;simp;apply Y;refine aF fun _ Y=>?_;simp;refine cU (Xu (iB nA l) p f caps _ (by omega) hcp hcs hp) ?_;apply Y;simp;apply Z;apply aC;simp [aH]
theorem aEc(x:AT)(c:ByteArray)(σ:List (List D))  :Ct prog 260 [cY x,.adr [D.str c]] σ (fun r σ'=>r= .bool (decide (x.name=c))/\σ'=σ):=by
  refine zf func260 ?_;refine bF fun _ _ Z=>?_;simp;apply Z;refine bF fun _ _ Z=>?_;simp;apply Z;apply aC;simp[aH]
theorem aEy(l:List AT)(c:ByteArray)(σ:List (List D))(hl:l.length<=99999):Ct prog 235 [.sl false (l.map cY),D.str c] σ (fun r σ'=>r= .xs 2 ((lA nA (iB nA l) c).map cY)/\σ'=σ):=by
  refine zf func235 ?_;refine zr ⟨[4],[3],[],[],[]⟩ fun _ _ Z=>?_;simp;apply Z;refine zr ⟨[4],[3],[],[],[]⟩ fun _ _ Z=>?_;refine zs 2 fun _ Y=>?_;simp;and_intros<;>(try omega);apply Y;refine aF fun _ Y=>?_;simp;refine cU (aPq l (fun x=>decide (x.name=c)) 260 [.adr [D.str c]] _ hl (by simp) (by simp) (fun x τ=>aEc x c τ)) ?_;apply Y;simp;apply Z;apply aC;simp [aH,lA]
theorem aBo(l:List AT)(c:ByteArray)(v:ByteArray)(σ:List (List D))(hl:l.length<=99999)(hs:Sorted nA l):Ct prog 182 [.sl false (l.map cY),D.str c,D.str v] σ (fun r σ'=>r= .sl false ((fQ nA l ⟨c,v⟩).map cY)/\σ'=σ):=
  (aLe l c v σ hl).freeze fun r σ' h=>by rw [rE nA hs] at h;exact h
theorem aG7(l:List AT)(c:ByteArray)(σ:List (List D))(hl:l.length<=99999)(hs:Sorted nA l):Ct prog 235 [.sl false (l.map cY),D.str c] σ (fun r σ'=>r= .sl false ((lA nA l c).map cY)/\σ'=σ):=
  (aEy l c σ hl).freeze fun r σ' h=>by rw [rE nA hs] at h;exact h
theorem aA5(x:PI)(s:ByteArray)(σ:List (List D))  :Ct prog 237 [cQ x,D.str s] σ (fun r σ'=>r= .int (Ki x.name s)/\σ'=σ):=by
  refine zf func237 ?_;refine bF fun _ _ Z=>?_;simp;apply Z;refine bF fun _ _ Z=>?_;refine zs 3 fun _ Y=>?_;simp;apply Y;refine aF fun _ Y=>?_;simp;refine cU (Kk x.name s _) ?_;apply Y;simp;apply Z;apply aC;simp [aH]
theorem aTi (N cap : Nat) (l : List PI) (rest : List D) (c : ByteArray) (σ : List (List D)) (hl : l.length <= 1000000) (hN : σ[N]? = some (l.flatMap cP ++ rest)) (hs : Sorted nP l) : Ct prog 236 [.slo N 0 l.length cap, D.str c, .clo (.func 237) [] []] σ (fun r σ' => r = .tup [.int ((lE nP l c : Nat) : Int), .bool (Jy nP l c)] /\ σ' = σ) := by
  refine zf func236 ?_;refine zr q31_1 fun _ _ Z=>?_;simp(disch:=omega)[hN,dW,dV];apply Z;refine zr q31_1 fun _ _ Z=>?_;simp(disch:=omega)[hN,dW,dV];and_intros<;>(try omega);apply Z;refine zr q31_1 fun _ _ Z=>?_;simp(disch:=omega)[hN,dW,dV];apply Z;apply Sl;refine zk [0,1,2,6,7,8,9,10] ?_;refine bA (fun(s:Nat×Nat)=> [(9,.d (.v (.int .i64 (s.1:Int)))),(10,.d (.v (.int .i64 (s.2:Int)))),(11,.d (.any))]) [9,10,11,15,16,17,18,19,20,21,22,23,24,25,26,27,28,29,30,31,32,33,34] (fun(s:Nat×Nat)=>s.1<=s.2/\s.2<=l.length/\(∀j (h:j<l.length),j<s.1->dQ l[j].name c=true)/\(∀j (h:j<l.length),s.2<=j->dQ l[j].name c=false)) (fun(s:Nat×Nat)=>s.2 - s.1) ((0,l.length)) (by simp <;> rfl) ?_ ?_ ?_
  . simp
  . exact⟨by omega,by omega,fun j h h2=>absurd h2 (by simp),fun j h h2=>absurd h2 (by simp;omega)⟩
  rintro⟨lo,hi⟩ ⟨h1,h2,h3,h4⟩;simp only [aQ,aP];dsimp only at h1 h2 h3 h4;have hmid:lo<hi->(lo+hi) / 2<hi:=fun h=>by omega
  apply aE;refine zr q31_1 fun _ _ Z=>?_;simp(disch:=omega)[hN,dW,dV];apply Z;refine zI ?_ ?_<;>intro c1<;>try simp at c1
  . apply zA
    apply aR;refine zk [0,1,2,6,7,8,9,10,11] ?_;refine zr q31_1 fun _ _ Z=>?_;simp(disch:=omega)[hN,dW,dV];and_intros<;>(try omega);apply Z;refine zk [0,1,2,6,7,8,9,10,11] ?_;refine zr q31_1 fun _ _ Z=>?_;refine zs 6 fun _ Y=>?_;simp(disch:=omega)[hN,dW,dV];and_intros<;>(try omega);apply Y;refine aF fun _ Y=>?_;simp(disch:=omega)[hN,dW,dV];refine cU (aA5 l[(lo+hi) / 2] c _) ?_;apply Y;simp(disch:=omega)[hN,dW,dV];apply Z;refine zI ?_ ?_<;>intro c2<;>try simp at c2
    . refine zk [0,1,2,6,7,8,9,10,11] ?_
      refine zt q31_1 fun _ _ Z=>?_;simp(disch:=omega)[hN,dW,dV];and_intros<;>(try omega);apply Z;apply kV;refine zq (((lo+hi) / 2+1,hi)) ?_ ?_ ?_
      . exact⟨by dsimp only;omega,by dsimp only;omega,aRb nP hs (by omega) (by simpa [Iy] using c2),h4⟩
      . try dsimp only
        omega
      simp(disch:=omega)[hN,dW,dV]
    refine zk [0,1,2,6,7,8,9,10,11] ?_;refine zt q31_1 fun _ _ Z=>?_;simp(disch:=omega)[hN,dW,dV];apply Z;apply kV;refine zq ((lo,(lo+hi) / 2)) ?_ ?_ ?_
    . exact⟨by dsimp only;omega,by dsimp only;omega,h3,aQs nP hs (by omega) ((aB6 _ _).1 (by omega))⟩
    . try dsimp only
      omega
    simp(disch:=omega)[hN,dW,dV]
  obtain rfl:lo=hi:=by omega
  have hpos:lE nP l c=lo:=Px nP l c lo h2 h3 (fun h=>h4 lo h (aV _));apply zE;refine zk [0,1,2,6,7,8,9] ?_;refine mK q31_1 fun all hall _ Z=>?_;have ga4:aO all 4=some 39:=hall 4;refine zs 5 fun _ Y=>?_;simp(disch:=omega)[hN,dW,dV,ga4];apply Y;refine zb 39 ?_ ?_<;>intro g3<;>try simp at g3
  . refine zs 6 fun _ Y=>?_
    simp(disch:=omega)[hN,dW,dV,ga4];and_intros<;>(try omega);apply Y;refine zg ga4 fun _ Y=>?_;simp(disch:=omega)[hN,dW,dV,ga4];refine cU (aA5 l[lo] c _) ?_;apply Y;simp(disch:=omega)[hN,dW,dV,ga4];apply Z;apply aC;simp [aH,hpos,Rw, *];exact Ox _ _
  refine zs 8 fun _ Y=>?_;simp(disch:=omega)[hN,dW,dV,ga4];and_intros<;>(try omega);apply Y;simp(disch:=omega)[hN,dW,dV,ga4];apply Z;apply aC;simp [aH,hpos, *];exact Ih _ _ _ (by omega)
theorem Ri(N cap:Nat)(l:List PI)(rest:List D)(c:ByteArray)(σ:List (List D))(hl:l.length<=1000000)(hN:σ[N]?=some (l.flatMap cP++rest))(hs:Sorted nP l):Ct prog 201 [.slo N 0 l.length cap,D.str c] σ (fun r σ'=>r= .tup [.int ((lE nP l c:Nat):Int),.bool (Jy nP l c)]/\σ'=σ):=by
  refine zf func201 ?_;refine bF fun _ _ Z=>?_;simp[hN];apply Z;refine bF fun _ _ Z=>?_;refine zs 2 fun _ Y=>?_;simp[hN];apply Y;refine aF fun _ Y=>?_;simp[hN];refine cU (aTi N cap l rest c _ hl hN hs) ?_;apply Y;simp[hN];apply Z;apply aC;simp [aH]
theorem aL5(l:List PI)(p:PI)(σ:List (List D))(hl:l.length<=999999)(hs:Sorted nP l):Ct prog 188 [.xs 2 (l.map cQ),cQ p] σ (fun r σ'=>r= .xs 2 ((fQ nP l p).map cQ)/\∃J,σ'=σ++J):=by
  refine zf func188 ?_;refine iO 0 2 rfl (by decide) fun cap rest hcap hcm hrest hk0 hes=>?_;subst hrest;simp only [bQ] at hcap |-;rw [cT (f:=cP) (fun _=>rfl)];have hpl:=Qy nP l p.name;refine zr q31_2 fun _ _ Z=>?_;simp(disch:=omega)[aJ,aG];apply Z;refine zr q31_2 fun _ _ Z=>?_;refine zs 3 fun _ Y=>?_;simp(disch:=omega)[aJ,aG];apply Y;refine aF fun _ Y=>?_;simp(disch:=omega)[aJ,aG];refine cU (Ri σ.length cap l (List.replicate ((cap - l.length) * 2) .any) p.name _ (by omega) (by simp [aJ]) hs) ?_;apply Y;simp(disch:=omega)[aJ,aG];apply Z;apply aE;refine zr q31_2 fun _ _ Z=>?_;simp(disch:=omega)[aJ,aG];apply Z;refine zI ?_ ?_<;>intro c1<;>try simp at c1
  . have hlt := Ae nP c1
    refine zk [0,3,4,5] ?_;refine zr q31_2 fun _ _ Z=>?_;simp(disch:=omega)[aJ,aG];and_intros<;>(try omega);apply Z;refine zr q31_2 fun _ _ Z=>?_;simp(disch:=omega)[aJ,aG];apply Z;refine fD 4 2 σ.length l.length cap ((l.set (lE nP l p.name) p).map cQ) ((l.set (lE nP l p.name) p).flatMap cP++List.replicate ((cap - l.length) * 2) .any) (by simp <;> rfl) (by simp [aJ]) (by omega) (by simp only [aY,dI (f:=cP) (k:=2) (fun _=>rfl),cO,bY];omega) (by simp) (mH (d:=cQ) (fun _=>⟨rfl,rfl⟩) _) (by rw [cT (f:=cP) (fun _=>rfl)];exact cZ _ _) ?_;apply aC;simp [aH,Dh,c1]
  apply zA;refine fD 0 2 σ.length l.length cap (l.map cQ) (l.flatMap cP++List.replicate ((cap - l.length) * 2) .any) (by simp <;> rfl) (by simp [aJ]) (by omega) (by simp only [aY,dI (f:=cP) (k:=2) (fun _=>rfl),cO,bY];omega) (by simp) (mH (d:=cQ) (fun _=>⟨rfl,rfl⟩) _) (by rw [cT (f:=cP) (fun _=>rfl)];exact cZ _ _) ?_;refine zk [0,3,4,5] ?_;refine zr q31_2 fun _ _ Z=>?_;refine zs 4 fun _ Y=>?_;simp(disch:=omega)[aJ,aG];and_intros<;>(try omega);apply Y;refine aF fun _ Y=>?_;simp(disch:=omega)[aJ,aG];refine cU (aOn l p (lE nP l p.name) _ (by omega) hpl) ?_;apply Y;simp(disch:=omega)[aJ,aG];apply Z;apply aC;simp [aH,Dh,c1]
theorem aB5(l:List PI)(p:PI)(σ:List (List D))(hl:l.length<=999999)(hs:Sorted nP l):Ct prog 188 [.xs 2 (l.map cQ),cQ p] σ (fun r σ'=>r= .xs 2 ((fQ nP l p).map cQ)/\σ'=σ):=
  (aL5 l p σ hl hs).trim fun r σ' ⟨hr,J,hs⟩=>⟨σ,J,hs,rfl,by rw [hr];exact aSq _ _,fun n cs h=> .inl h,hr,rfl⟩
theorem wG(l:List PI)(rest:List D)(i:Nat)(h:i<l.length):zN false 1 ((l.flatMap cP++rest).drop (i * 2+1))=some (D.int l[i].value):=Ul (f:=cP) (k:=2) (fun _=>rfl) l rest i 1 h (by decide)
theorem Ev(l:List PI)(σ:List (List D))(hl:l.length<=999999):Ct prog 108 [.sl false (l.map cQ)] σ (fun r σ'=>r= .xs 2 ((iB nP l).map cQ)/\σ'=σ):=by
  refine zf func108 ?_;refine zr q31_3 fun _ _ Z=>?_;simp(disch:=omega);apply Z;refine zr q31_3 fun _ _ Z=>?_;simp(disch:=omega);apply Z;apply aE;refine zr q31_3 fun _ _ Z=>?_;simp(disch:=omega);and_intros<;>(try omega);apply Z;apply aR;refine zk [2,3,6,7,8] ?_;refine Bz 3 2 (by simp <;> rfl) ?_;refine bA (fun(k:Nat)=> [(8,.d (.v (.int .i64 (k:Int)))),(3,.d (.xs 2 ((iB nP (l.take k)).map cQ)))]) [3,5,8,9,10,11,12,13,14,15] (fun(k:Nat)=>k<=l.length) (fun(k:Nat)=>l.length - k) (0) (by simp <;> rfl) ?_ ?_ ?_
  . simp [iB]
  . simp
  rintro k hk;simp only [aQ,aP];have hol:=jC nP (l.take k);simp only [bG] at hol;refine zr q31_3 fun _ _ Z=>?_;simp(disch:=omega);apply Z;apply aE;refine zI ?_ ?_<;>intro c1<;>try simp at c1
  . apply kP
    refine zr q31_3 fun _ _ Z=>?_;simp(disch:=omega);and_intros<;>(try omega);apply Z;refine zt q31_3 fun _ _ Z=>?_;refine zs 2 fun _ Y=>?_;simp(disch:=omega);apply Y;refine aF fun _ Y=>?_;simp(disch:=omega);refine cU (aB5 (iB nP (l.take k)) l[k] _ (by omega) (gK nP _)) ?_;apply Y;simp(disch:=omega);apply Z;apply zB;refine zk [2,3,6,7,8] ?_;refine zt q31_3 fun _ _ Z=>?_;simp(disch:=omega);and_intros<;>(try omega);apply Z;refine zq (k+1) ?_ ?_ ?_
    . omega
    . try dsimp only
      omega
    simp(disch:=omega)[Ku]
  apply zE;refine zr q31_3 fun _ _ Z=>?_;simp(disch:=omega);apply Z;apply aC;simp [aH];rw [cC (by omega)]
theorem aMx(l:List PI)(c:ByteArray)(σ:List (List D))(hl:l.length<=999999):Ct prog 239 [.sl false (l.map cQ),D.str c] σ (fun r σ'=>(∃v:Int,r= .tup [D.int v,.bool (Jy nP (iB nP l) c)])/\∃J,σ'=σ++J):=by
  refine zf func239 ?_;have hol:=jC nP l;refine zr q31_4 fun _ _ Z=>?_;simp(disch:=omega)[aJ,aG,wG];apply Z;refine zr q31_4 fun _ _ Z=>?_;refine zs 1 fun _ Y=>?_;simp(disch:=omega)[aJ,aG,wG];apply Y;refine aF fun _ Y=>?_;simp(disch:=omega)[aJ,aG,wG];refine cU (Ev l _ hl) ?_;apply Y;simp(disch:=omega)[aJ,aG,wG];apply Z;apply aE;refine iO 6 2 rfl (by decide) fun cap rest hcap hcm hrest hk0 hes=>?_;subst hrest;simp only [bQ] at hcap |-;rw [cT (f:=cP) (fun _=>rfl)];refine zr q31_4 fun _ _ Z=>?_;refine zs 2 fun _ Y=>?_;simp(disch:=omega)[aJ,aG,wG];apply Y;refine aF fun _ Y=>?_;simp(disch:=omega)[aJ,aG,wG];refine cU (Ri σ.length cap (iB nP l) (List.replicate ((cap - (iB nP l).length) * 2) .any) c _ (by omega) (by simp [aJ]) (gK nP l)) ?_;apply Y;simp(disch:=omega)[aJ,aG,wG];apply Z;refine zk [4,5,6,7,8] ?_;refine zr q31_4 fun _ _ Z=>?_;simp(disch:=omega)[aJ,aG,wG];apply Z;refine zI ?_ ?_<;>intro c1<;>try simp at c1
  . have hlt := Ae nP c1
    refine zr q31_4 fun _ _ Z=>?_;simp(disch:=omega)[aJ,aG,wG];and_intros<;>(try omega);apply Z;apply aC;simp [aH,c1]
  apply zA;refine zr q31_4 fun _ _ Z=>?_;simp(disch:=omega)[aJ,aG,wG];apply Z;refine zr q31_4 fun _ _ Z=>?_;simp(disch:=omega)[aJ,aG,wG];apply Z;apply aC;simp [aH,c1]
theorem aBk(l:List PI)(c:ByteArray)(σ:List (List D))(hl:l.length<=999999)(hs:Sorted nP l):Ct prog 239 [.sl false (l.map cQ),D.str c] σ (fun r σ'=>(∃v:Int,r= .tup [D.int v,.bool (lQ nP l c)])/\σ'=σ):=
  (aMx l c σ hl).trim fun r σ' ⟨⟨v,hr⟩,J,hs'⟩=>⟨σ,J,hs',rfl,by rw [hr];exact Sc.tup fun d hd=>by simp at hd;rcases hd with rfl | rfl <;> exact Sc.v _,fun n cs h=> .inl h,⟨v,by rw [hr,rE nP hs,Il nP hs]⟩,rfl⟩
theorem aH8(l:List PI)(c:ByteArray)(v:Int)(σ:List (List D))(hl:l.length<=99999):Ct prog 183 [.sl false (l.map cQ),D.str c,D.int v] σ (fun r σ'=>r= .xs 2 ((fQ nP (iB nP l) ⟨c,v⟩).map cQ)/\σ'=σ):=by
  refine zf func183 ?_;have hol:=jC nP l;refine zr ⟨[6,9,10,12],[],[],[],[]⟩ fun _ _ Z=>?_;simp;apply Z;refine zr ⟨[6,9,10,12],[],[],[],[]⟩ fun _ _ Z=>?_;refine zs 1 fun _ Y=>?_;simp;apply Y;refine aF fun _ Y=>?_;simp;refine cU (Ev l _ (by omega)) ?_;apply Y;refine zs 3 fun _ Y=>?_;simp;apply Y;refine aF fun _ Y=>?_;simp;refine cU (aB5 (iB nP l) ⟨c,v⟩ _ (by omega) (gK nP l)) ?_;apply Y;simp;apply Z;apply aC;simp [aH]
theorem aP2(l:List PI)(p:PI->Bool)(f:FuncId)(caps:List D)(σ:List (List D))(hl:l.length<=99999)(hcp:∀d∈caps,d.plain=true)(hcs:caps.map D.strip=caps)(hp:∀x τ,Ct prog f (cQ x::caps) τ (fun r τ'=>r= .bool (p x)/\τ'=τ)):Ct prog 261 [.sl false (l.map cQ),.clo (.func f) [] caps] σ (fun r σ'=>r= .xs 2 (((iB nP l).filter fun x=> !p x).map cQ)/\σ'=σ):=by
  refine zf func261 ?_;have hol:=jC nP l;refine zr ⟨[4,7,8],[],[],[],[]⟩ fun _ _ Z=>?_;simp;apply Z;refine zr ⟨[4,7,8],[],[],[],[]⟩ fun _ _ Z=>?_;refine zs 1 fun _ Y=>?_;simp;apply Y;refine aF fun _ Y=>?_;simp;refine cU (Ev l _ (by omega)) ?_;apply Y;refine zs 1 fun _ Y=>?_;simp;apply Y;refine aF fun _ Y=>?_;simp;refine cU (Yr (iB nP l) p f caps _ (by omega) hcp hcs hp) ?_;apply Y;simp;apply Z;apply aC;simp [aH]
theorem aCx(x:PI)(c:ByteArray)(σ:List (List D))  :Ct prog 262 [cQ x,.adr [D.str c]] σ (fun r σ'=>r= .bool (decide (x.name=c))/\σ'=σ):=by
  refine zf func262 ?_;refine bF fun _ _ Z=>?_;simp;apply Z;refine bF fun _ _ Z=>?_;simp;apply Z;apply aC;simp[aH]
theorem aEz(l:List PI)(c:ByteArray)(σ:List (List D))(hl:l.length<=99999):Ct prog 240 [.sl false (l.map cQ),D.str c] σ (fun r σ'=>r= .xs 2 ((lA nP (iB nP l) c).map cQ)/\σ'=σ):=by
  refine zf func240 ?_;refine zr ⟨[4],[3],[],[],[]⟩ fun _ _ Z=>?_;simp;apply Z;refine zr ⟨[4],[3],[],[],[]⟩ fun _ _ Z=>?_;refine zs 2 fun _ Y=>?_;simp;and_intros<;>(try omega);apply Y;refine aF fun _ Y=>?_;simp;refine cU (aP2 l (fun x=>decide (x.name=c)) 262 [.adr [D.str c]] _ hl (by simp) (by simp) (fun x τ=>aCx x c τ)) ?_;apply Y;simp;apply Z;apply aC;simp [aH,lA]
theorem Bp(l:List PI)(c:ByteArray)(v:Int)(σ:List (List D))(hl:l.length<=99999)(hs:Sorted nP l):Ct prog 183 [.sl false (l.map cQ),D.str c,D.int v] σ (fun r σ'=>r= .sl false ((fQ nP l ⟨c,v⟩).map cQ)/\σ'=σ):=
  (aH8 l c v σ hl).freeze fun r σ' h=>by rw [rE nP hs] at h;exact h
theorem aK3(l:List PI)(c:ByteArray)(σ:List (List D))(hl:l.length<=99999)(hs:Sorted nP l):Ct prog 240 [.sl false (l.map cQ),D.str c] σ (fun r σ'=>r= .sl false ((lA nP l c).map cQ)/\σ'=σ):=
  (aEz l c σ hl).freeze fun r σ' h=>by rw [rE nP hs] at h;exact h
end Go.Proofs.YtbgfljpnhhdkoaaGreat
