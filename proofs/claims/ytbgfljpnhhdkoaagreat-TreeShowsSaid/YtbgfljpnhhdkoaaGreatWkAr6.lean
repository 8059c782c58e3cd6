import Derived.Test.YtbgfljpnhhdkoaaGreatWkAr4
set_option linter.all false
set_option maxRecDepth 20000
set_option maxHeartbeats 8000000
open Go.Proofs.Tryz
namespace Go.Proofs.YtbgfljpnhhdkoaaGreat
open Go Go.Vm
variable {a c:ByteArray}{j k:Nat}{l:List PI}
def dO(a b:ByteArray):Bool:=Op.bytesLess a.toList b.toList
theorem Nm:∀a:List UInt8,Op.bytesLess a a=false
  | []=>rfl
  | a::x=>by simp [Op.bytesLess,Nm x]
theorem aVg {a b:UInt8} :a<b↔a.toNat<b.toNat:=Iff.rfl
theorem Tw:∀a b c:List UInt8,Op.bytesLess a b=true->Op.bytesLess b c=true->Op.bytesLess a c=true
  | [], [],_,h,_=>by simp [Op.bytesLess] at h
  | _::_, [],_,h,_=>by simp [Op.bytesLess] at h
  | [],_::_, [],_,h=>by simp [Op.bytesLess] at h
  | _::_,_::_, [],_,h=>by simp [Op.bytesLess] at h
  | [],_::_,_::_,_,_=>by simp [Op.bytesLess]
  | a :: x, b :: y, c :: z, h1, h2 => by
    simp only [Op.bytesLess,Fb,gO,fN,yF,aVg] at *;rcases h1 with h1 | ⟨rfl,h1⟩
    . rcases h2 with h2 | ⟨rfl, h2⟩
      . left;omega
      left;exact h1
    rcases h2 with h2 | ⟨rfl,h2⟩
    . left;exact h2
    right;exact⟨rfl,Tw x y z h1 h2⟩
theorem oR(a:ByteArray):dO a a=false:=Nm _
theorem sM {b:ByteArray} (h1:dO a b=true)(h2:dO b c=true):dO a c=true:=Tw _ _ _ h1 h2
theorem Wp(a b:ByteArray):dO a b=true\/a=b\/dO b a=true:=by
  have h:=yW a.toList b.toList;unfold dO;cases h1:Op.bytesLess a.toList b.toList with
  | true=>left;rfl
  | false =>
    rw [h1,Gm,qS] at h;cases h2:Op.bytesLess b.toList a.toList with
    | true=>right;right;rfl
    | false=>rw [h2] at h;right;left;simpa using h
theorem Kw {b:ByteArray} (h:dO a b=true):dO b a=false:=by
  cases h2:dO b a with
  | false=>rfl
  | true=>have:=sM h h2;rw [oR] at this;cases this
theorem qQ {b:ByteArray} (h:dO a b=true):a≠b:=by rintro rfl;rw [oR] at h;cases h
theorem Uq {b:ByteArray} (h:dO a b=false)(hn:a≠b):dO b a=true:=by
  rcases Wp a b with h1 | h1 | h1
  . rw [h1] at h;cases h
  . exact absurd h1 hn
  exact h1
def Iw(a b:ByteArray):Int:=if dO a b=true then -1 else if dO b a=true then 1 else 0
theorem Jk(a b:ByteArray):Iw a b<0↔dO a b=true:=by
  unfold Iw;repeat' split
  all_goals simp_all
theorem aCe(a b:ByteArray):0<=Iw a b↔dO a b=false:=by
  have:=Jk a b;rw [<- yG,<- this];omega
theorem Pt(a b:ByteArray):Iw a b=0↔a=b:=by
  unfold Iw
  repeat' split
  . rename_i h;simp;exact qQ h
  . rename_i h;simp;exact fun e=>qQ h e.symm
  rename_i h1 h2;simp only [true_iff];rcases Wp a b with h | h | h
  . exact absurd h h1
  . exact h
  exact absurd h h2
section
variable {α:Type} (nm:α->ByteArray)
def lG:List α->ByteArray->Nat
  | [],_=>0
  | q::l,c=>if dO (nm q) c=true then lG l c+1 else 0
def Lp:List α->ByteArray->Bool
  | [],_=>false
  | q::l,c=>if dO (nm q) c=true then Lp l c else decide (nm q=c)
def fO:List α->α->List α
  | [],p=> [p]
  | q::l,p=>if dO (nm q) (nm p)=true then q::fO l p else if nm q=nm p then p::l else p::q::l
def Sorted(l:List α):Prop:=l.Pairwise fun a b=>dO (nm a) (nm b)=true
def hU(l:List α):List α:=l.foldl (fO nm) []
def lQ(l:List α)(c:ByteArray):Bool:=l.any fun p=>decide (nm p=c)
def lA(l:List α)(c:ByteArray):List α:=l.filter fun p=> !decide (nm p=c)
theorem Rh(l:List α)(c:ByteArray):lG nm l c<=l.length:=by
  induction l with
  | nil=>exact bC _
  | cons q l ih=>unfold lG;split <;> simp <;> omega
theorem Sb:∀(l:List α) (c:ByteArray) (i:Nat),i<=l.length->(∀j (h:j<l.length),j<i->dO (nm l[j]) c=true)->(∀h:i<l.length,dO (nm l[i]) c=false)->lG nm l c=i
  | [],c,i,hi,_,_=>by simp at hi;subst hi;rfl
  | q :: l, c, 0, _, _, h2 => by
    have:=h2 (by simp);simp only [Eg] at this;simp [lG,this]
  | q :: l, c, i + 1, hi, h1, h2 => by
    have h0:=h1 0 (by simp) (by omega);simp only [Eg] at h0;have:=Sb l c i (by simpa using hi) (fun j h hj=>h1 (j+1) (by simpa using h) (by omega)) (fun h=>h2 (by simpa using h));simp [lG,h0,this]
theorem Rd:∀(l:List α) (c:ByteArray) (h:lG nm l c<l.length),Lp nm l c=decide (nm l[lG nm l c]=c)
  | [],c,h=>by simp at h
  | q :: l, c, h => by
    by_cases e:dO (nm q) c=true
    . have hp : lG nm (q :: l) c = lG nm l c + 1 := by simp [lG, e]
      have h':lG nm l c<l.length:=by rw [hp] at h;simpa using h
      have:=Rd l c h';simp only [Lp,e,aT,this,hp,List.getElem_cons_succ]
    have hp:lG nm (q::l) c=0:=by simp [lG,e]
    simp only [Lp,e,bJ,hp,Eg];rfl
theorem Hu:∀(l:List α) (c:ByteArray),lG nm l c=l.length->Lp nm l c=false
  | [],c,_=>rfl
  | q :: l, c, h => by
    by_cases e:dO (nm q) c=true
    . have hp : lG nm (q :: l) c = lG nm l c + 1 := by simp [lG, e]
      simp only [Lp,e,aT];exact Hu l c (by rw [hp] at h;simpa using h)
    have hp:lG nm (q::l) c=0:=by simp [lG,e]
    rw [hp] at h;simp at h
theorem zY {l:List α} (h:Lp nm l c=true):lG nm l c<l.length:=by
  have:=Rh nm l c;rcases tT (lG nm l c) l.length with h1 | h1
  . exact h1
  have:=Hu nm l c (by omega);rw [h] at this;cases this
theorem Bg:∀(l:List α) (p:α),fO nm l p=if Lp nm l (nm p)=true then l.set (lG nm l (nm p)) p else fM l (lG nm l (nm p)) p
  | [],p=>rfl
  | q :: l, p => by
    by_cases e:dO (nm q) (nm p)=true
    . have ih := Bg l p
      simp only [fO,Lp,lG,e,aT,ih];split <;> simp [fM]
    simp only [fO,Lp,lG,e,bJ];by_cases e2:nm q=nm p <;> simp [e2,fM]
theorem Co(l:List α)(p:α):(fO nm l p).length<=l.length+1:=by
  induction l with
  | nil=>simp [fO]
  | cons q l ih => unfold fO; repeat' split
                   all_goals simp
                   all_goals omega
theorem Bz {l:List α} {p x:α} (h:x∈fO nm l p):x=p\/x∈l:=by
  induction l with
  | nil=>simp [fO] at h;exact .inl h
  | cons q l ih =>
    unfold fO at h;split at h
    . rcases bP.1 h with h | h
      . exact .inr (by simp [h])
      rcases ih h with h | h
      . exact .inl h
      exact .inr (by simp [h])
    split at h
    . rcases bP.1 h with h | h
      . exact .inl h
      exact .inr (by simp [h])
    rcases bP.1 h with h | h
    . exact .inl h
    exact .inr h
theorem nC {l:List α} (h:Sorted nm l)(p:α):Sorted nm (fO nm l p):=by
  induction l with
  | nil=>simp [fO,Sorted]
  | cons q l ih =>
    have h':=jB.1 h;unfold fO;split
    . rename_i e
      refine jB.2 ⟨fun x hx=>?_,ih h'.2⟩;rcases Bz nm hx with rfl | hx
      . exact e
      exact h'.1 x hx
    rename_i e;split
    . rename_i e2
      exact jB.2 ⟨fun x hx=>by rw [<- e2];exact h'.1 x hx,h'.2⟩
    rename_i e2;have e3:=Uq (by simpa using e) e2;refine jB.2 ⟨fun x hx=>?_,h⟩;rcases bP.1 hx with rfl | hx
    . exact e3
    exact sM e3 (h'.1 x hx)
theorem wY(l:List α)(p:α):hU nm (l++ [p])=fO nm (hU nm l) p:=by simp [hU,jO]
theorem Iy(l:List α)(k:Nat)(h:k<l.length):hU nm (l.take (k+1))=fO nm (hU nm (l.take k)) l[k]:=by rw [bN l k h,wY]
theorem gK(l:List α):Sorted nm (hU nm l):=by
  induction l using oB with
  | h0=>simp [hU,Sorted]
  | h1 l x ih=>rw [wY];exact nC nm ih x
theorem iD(l:List α):(hU nm l).length<=l.length:=by
  induction l using oB with
  | h0=>simp [hU]
  | h1 l x ih=>rw [wY];have:=Co nm (hU nm l) x;simp;omega
theorem aFg {l:List α} {p:α} (h:∀x∈l,dO (nm x) (nm p)=true):fO nm l p=l++ [p]:=by
  induction l with
  | nil=>rfl
  | cons q l ih =>
    have:=h q (by simp);simp only [fO,this,aT,aQ];rw [ih fun x hx=>h x (by simp [hx])]
theorem rG {l:List α} (h:Sorted nm l):hU nm l=l:=by
  induction l using oB with
  | h0=>rfl
  | h1 l x ih =>
    have h':=Fe.1 h;rw [wY,ih h'.1,aFg nm fun y hy=>h'.2.2 y hy x (by simp)]
theorem Hv {l:List α} (h:Sorted nm l)(c:ByteArray):Lp nm l c=lQ nm l c:=by
  induction l with
  | nil=>rfl
  | cons q l ih =>
    have h':=jB.1 h;unfold Lp lQ;simp only [List.any_cons];split
    . rename_i e
      rw [ih h'.2];have:¬nm q=c:=qQ e;simp [this,lQ]
    rename_i e;have:(l.any fun p=>decide (nm p=c))=false:=by
      rw [pY];intro x hx;simp only [fN];rintro rfl;have:=h'.1 x hx;exact e this
    rw [this,zF]
theorem tM {l:List α} (h:Sorted nm l)(c:ByteArray):Sorted nm (lA nm l c):=List.Pairwise.filter _ h
theorem Cy(l:List α)(c:ByteArray):(lA nm l c).length<=l.length:=jD _ _
theorem Kz {l:List α} (c:ByteArray):((lA nm l c).length=l.length)↔lQ nm l c=false:=by
  unfold lA lQ;rw [List.length_filter_eq_length_iff,pY];simp
theorem yO(l:List α)(c:ByteArray)(k:Nat)(h:k<l.length):lA nm (l.take (k+1)) c=lA nm (l.take k) c++if nm l[k]=c then [] else [l[k]]:=by
  unfold lA;rw [bN l k h,fU,gN];by_cases e:nm l[k]=c <;> simp [e]
theorem aRl {l:List α} {m:Nat} (hs:Sorted nm l)(hm:m<l.length)(h:dO (nm l[m]) c=true):∀j (h:j<l.length),j<m+1->dO (nm l[j]) c=true:=fun j hj hjm=>by
  rcases tT j m with h1 | h1
  . exact sM (qI.1 hs j m hj hm h1) h
  obtain rfl:j=m:=by omega
  exact h
theorem aQz {l:List α} {m:Nat} (hs:Sorted nm l)(hm:m<l.length)(h:dO (nm l[m]) c=false):∀j (h:j<l.length),m<=j->dO (nm l[j]) c=false:=fun j hj hjm=>by
  rcases tT m j with h1 | h1
  . have := qI.1 hs m j hm hj h1
    cases e:dO (nm l[j]) c with
    | false=>rfl
    | true=>rw [sM this e] at h;cases h
  obtain rfl:j=m:=by omega
  exact h
def mM(p:α)(s:List α×Bool)(x:α):List α×Bool:=
  let s1:=if s.2=false/\dO (nm x) (nm p)=false then(s.1++ [p],true)else s
  if nm x=nm p then s1 else(s1.1++ [x],s1.2)
def rJ(l:List α)(p:α):List α×Bool:=l.foldl (mM nm p) ([],false)
def aGe(s:List α×Bool)(p:α):List α:=if s.2=true then s.1 else s.1++ [p]
theorem pW(l:List α)(p:α)(k:Nat)(h:k<l.length):rJ nm (l.take (k+1)) p=mM nm p (rJ nm (l.take k) p) l[k]:=by
  unfold rJ;rw [bN l k h,jO];rfl
theorem aDi(l:List α)(p:α):(rJ nm l p).1.length<=l.length+(if(rJ nm l p).2=true then 1 else 0):=by
  induction l using oB with
  | h0=>simp [rJ]
  | h1 l x ih =>
    have e:rJ nm (l++ [x]) p=mM nm p (rJ nm l p) x:=by unfold rJ;rw [jO];rfl
    rw [e];generalize rJ nm l p=s at ih;obtain⟨o,b⟩:=s;unfold mM;cases b <;> by_cases e1:dO (nm x) (nm p)=false <;> by_cases e2:nm x=nm p <;> simp_all <;> omega
theorem Jf(p:α):∀(l o:List α),(l.foldl (mM nm p) (o,true))=(o++lA nm l (nm p),true)
  | [],o=>by simp [lA]
  | x :: l, o => by
    rw [dJ];have e:mM nm p (o,true) x=(if nm x=nm p then o else o++ [x],true):=by
      unfold mM;simp;split <;> rfl
    rw [e,Jf p l];unfold lA;by_cases e2:nm x=nm p <;> simp [e2]
theorem Hg (p : α) : ∀ (l o : List α), Sorted nm l -> aGe (l.foldl (mM nm p) (o, false)) p = o ++ fO nm l p
  | [],o,_=>by simp [aGe,fO]
  | x :: l, o, h => by
    have h':=jB.1 h;rw [dJ];by_cases e1:dO (nm x) (nm p)=true
    . have e : mM nm p (o, false) x = (o ++ [x], false) := by
        unfold mM;simp [e1,qQ e1]
      rw [e,Hg p l _ h'.2];simp [fO,e1]
    have e1':dO (nm x) (nm p)=false:=by simpa using e1
    have hid:∀y∈l,nm y≠nm p:=fun y hy hp=>e1 (by have:=h'.1 y hy;rw [hp] at this;exact this);have hdel:lA nm l (nm p)=l:=by
      unfold lA;rw [nJ];intro y hy;simp [hid y hy]
    have e:mM nm p (o,false) x=(if nm x=nm p then o++ [p] else o++ [p]++ [x],true):=by
      unfold mM;simp [e1'];split <;> rfl
    rw [e,Jf,hdel];by_cases e2:nm x=nm p <;> simp [aGe,fO,e1,e2,oR]
theorem Ns {l:List α} (h:Sorted nm l)(p:α):aGe (rJ nm l p) p=fO nm l p:=by
  have:=Hg nm p l [] h;simpa [rJ] using this
def rF(out:List α)(c:ByteArray):Bool:=match out.getLast? with | none=>true | some q=>dO (nm q) c
def Mj(l out:List α):Option α:=((hU nm l).filter fun p=>rF nm out (nm p)).head?
theorem Uw {g:ByteArray->Bool} (hup:∀a b,dO a b=true->g a=true->g b=true):∀(l:List α) (p:α),(fO nm l p).filter (fun q=>g (nm q))=if g (nm p)=true then fO nm (l.filter fun q=>g (nm q)) p else l.filter fun q=>g (nm q)
  | [],p=>by by_cases e:g (nm p)=true <;> simp [fO,e]
  | q :: l, p => by
    have ih:=Uw hup l p;by_cases e:dO (nm q) (nm p)=true
    . simp only [fO, e, aT, gN, ih]
      by_cases e1:g (nm q)=true <;> by_cases e2:g (nm p)=true <;> simp [e1,e2,fO,e]
    by_cases e3:nm q=nm p
    . simp only [fO, e, e3, aT, bJ, gN]
      by_cases e2:g (nm p)=true
      . simp [e2,fO,e3,oR]
      simp [e2,oR]
    simp only [fO,e,e3,bJ,gN];have e4:=Uq (by simpa using e) e3;by_cases e2:g (nm p)=true
    . have e1 := hup _ _ e4 e2
      simp [e1,e2,fO,e,e3]
    by_cases e1:g (nm q)=true <;> simp [e1,e2,fO,e,e3]
theorem aHl(out:List α):∀a b,dO a b=true->rF nm out a=true->rF nm out b=true:=by
  intro a b h1 h2;unfold rF at *;split
  . rfl
  rename_i q hq;rw [hq] at h2;exact sM h2 h1
theorem aE8(l out:List α)(k:Nat)(h:k<l.length):Mj nm (l.take (k+1)) out=if rF nm out (nm l[k])=true then(match Mj nm (l.take k) out with | none=>some l[k] | some q=>if dO (nm q) (nm l[k])=true then some q else some l[k])else Mj nm (l.take k) out:=by
  unfold Mj;rw [Iy nm l k h,Uw nm (aHl nm out)];split
  . cases (hU nm (l.take k)).filter fun p => rF nm out (nm p) with
    | nil=>rfl
    | cons q r =>
      simp only [fO,List.head?_cons]
      repeat' split
      all_goals rfl
  rfl
theorem aTe(l out:List α):Mj nm (l.take 0) out=none:=by simp [Mj,hU]
theorem aJo (l : List α) (k : Nat) (hk : k <= (hU nm l).length) : Mj nm l ((hU nm l).take k) = (hU nm l)[k]? := by
  have hs := gK nm l;unfold Mj;generalize hU nm l = S at *;have hd : (S.filter fun p => rF nm (S.take k) (nm p)) = S.drop k := by
    cases k with
    | zero=>simp [rF]
    | succ k =>
      have hl:(S.take (k+1)).getLast?=some S[k]:=by rw [bN S k (by omega),List.getLast?_concat]
      have hg:∀p,rF nm (S.take (k+1)) (nm p)=dO (nm S[k]) (nm p):=fun p=>by unfold rF;rw [hl]
      simp only [hg];have hsplit:∀q:α->Bool,S.filter q=(S.take (k+1)).filter q++(S.drop (k+1)).filter q:=fun q=>by rw [<- fU,fL]
      rw [hsplit];have hp:(S.take (k+1)++S.drop (k+1)).Pairwise fun a b=>dO (nm a) (nm b)=true:=by rw [fL];exact hs
      have h3:=Fe.1 hp;have hmem:S[k]∈S.take (k+1):=by rw [bN S k (by omega)];exact oY _ (fP.2 rfl)
      have f2:(S.drop (k+1)).filter (fun p=>dO (nm S[k]) (nm p))=S.drop (k+1):=by
        rw [nJ];exact fun x hx=>h3.2.2 _ hmem x hx
      have f1:(S.take (k+1)).filter (fun p=>dO (nm S[k]) (nm p))= []:=by
        rw [nN];intro x hx;rw [bN S k (by omega)] at hx h3;rcases bQ.1 hx with hx | hx
        . have := (Fe.1 h3.1).2.2 x hx S[k] (by simp)
          rw [Kw this];simp
        simp at hx;subst hx;rw [oR];simp
      rw [f1,f2,aP]
  rw [hd,pU]
end
abbrev nA:AT->ByteArray:=AT.name
abbrev nP:PI->ByteArray:=PI.name
theorem dZ(a b:Nat):Int.fdiv ((a:Int)+(b:Int)) (2 ^ min 1 IntKind.u64.bits)=(((a+b) / 2:Nat):Int):=by
  have e:(2:Int) ^ min 1 IntKind.u64.bits=2:=by decide
  rw [e,Int.fdiv_eq_ediv_of_nonneg _ (by omega)];omega
theorem aP2:IntKind.u64.min=0:=rfl
theorem aQa:IntKind.u64.max=18446744073709551615:=by decide
theorem eA(n:Int):inR .u64 n=(0<=n/\n<=18446744073709551615):=by
  show(IntKind.u64.min<=n/\n<=IntKind.u64.max)=_
  rw [aP2,aQa]
theorem Wc(s:ByteArray)(σ:List (List D))  :Ct prog 258 [D.str s] σ (fun r σ'=>r= .bool false/\σ'=σ):=by
  refine zf func258 ?_;refine aZ fun _ _ Z=>?_;simp;apply Z;refine aZ fun _ _ Z=>?_;simp;apply Z;apply aC;simp [aI]
theorem Li(a b:ByteArray)(σ:List (List D))  :Ct prog 233 [D.str a,D.str b] σ (fun r σ'=>r= .int (Iw a b)/\σ'=σ):=by
  refine zf func233 ?_;refine aZ fun _ _ Z=>?_;simp;apply Z;refine aZ fun _ _ Z=>?_;refine zs 1 fun _ Y=>?_;simp;apply Y;refine aE fun _ Y=>?_;simp;refine cH (Wc a _) ?_;apply Y;simp;apply Z;refine aZ fun _ _ Z=>?_;refine zs 1 fun _ Y=>?_;simp;apply Y;refine aE fun _ Y=>?_;simp;refine cH (Wc b _) ?_;apply Y;simp;apply Z;apply aF;refine aZ fun _ _ Z=>?_;simp;apply Z;refine zI ?_ ?_<;>intro c1<;>try simp at c1
  apply zA;apply aF;refine aZ fun _ _ Z=>?_;simp;apply Z;refine zI ?_ ?_<;>intro c2<;>try simp at c2
  apply zA;apply aF;refine aZ fun _ _ Z=>?_;simp;apply Z;refine zI ?_ ?_<;>intro c3<;>try simp at c3
  . refine zk [0,1,4] ?_
    refine aZ fun _ _ Z=>?_;simp;apply Z;apply aC;simp [aI,Iw,dO, *]
  apply zA;apply aF;refine zk [0,1,4] ?_;refine aZ fun _ _ Z=>?_;simp;apply Z;refine zI ?_ ?_<;>intro c4<;>try simp at c4
  . refine aZ fun _ _ Z=>?_
    simp;apply Z;apply aC;simp [aI,Iw,dO, *]
  apply zA;refine aZ fun _ _ Z=>?_;simp;apply Z;apply aC;simp [aI,Iw,dO, *]
theorem aB2(x:AT)(s:ByteArray)(σ:List (List D))  :Ct prog 232 [cW x,D.str s] σ (fun r σ'=>r= .int (Iw x.name s)/\σ'=σ):=by
  refine zf func232 ?_;refine aZ fun _ _ Z=>?_;simp;apply Z;refine aZ fun _ _ Z=>?_;refine zs 3 fun _ Y=>?_;simp;apply Y;refine aE fun _ Y=>?_;simp;refine cH (Li x.name s _) ?_;apply Y;simp;apply Z;apply aC;simp [aI]
@[simp] abbrev q27_1:Cfg:=⟨[],[],[],[13,27,43],[]⟩
theorem aRs (N cap : Nat) (l : List AT) (rest : List D) (c : ByteArray) (σ : List (List D)) (hl : l.length <= 1000000) (hN : σ[N]? = some (l.flatMap cA ++ rest)) (hs : Sorted nA l) : Ct prog 231 [.slo N 0 l.length cap, D.str c, .clo (.func 232) [] []] σ (fun r σ' => r = .tup [.int ((lG nA l c : Nat) : Int), .bool (Lp nA l c)] /\ σ' = σ) := by
  refine zf func231 ?_;refine zr q27_1 fun _ _ Z=>?_;simp(disch:=omega)[hN,dZ,eA];apply Z;refine zr q27_1 fun _ _ Z=>?_;simp(disch:=omega)[hN,dZ,eA];and_intros<;>(try omega);apply Z;refine zr q27_1 fun _ _ Z=>?_;simp(disch:=omega)[hN,dZ,eA];apply Z;apply Sy;refine zk [0,1,2,6,7,8,9,10] ?_;refine aY (fun(s:Nat×Nat)=> [(9,.d (.v (.int .i64 (s.1:Int)))),(10,.d (.v (.int .i64 (s.2:Int)))),(11,.d (.any))]) [9,10,11,15,16,17,18,19,20,21,22,23,24,25,26,27,28,29,30,31,32,33,34] (fun(s:Nat×Nat)=>s.1<=s.2/\s.2<=l.length/\(∀j (h:j<l.length),j<s.1->dO l[j].name c=true)/\(∀j (h:j<l.length),s.2<=j->dO l[j].name c=false)) (fun(s:Nat×Nat)=>s.2 - s.1) ((0,l.length)) (by simp <;> rfl) ?_ ?_ ?_
  . simp
  . exact⟨by omega,by omega,fun j h h2=>absurd h2 (by simp),fun j h h2=>absurd h2 (by simp;omega)⟩
  rintro⟨lo,hi⟩ ⟨h1,h2,h3,h4⟩;simp only [aQ,aP];dsimp only at h1 h2 h3 h4;have hmid:lo<hi->(lo+hi) / 2<hi:=fun h=>by omega
  apply aF;refine zr q27_1 fun _ _ Z=>?_;simp(disch:=omega)[hN,dZ,eA];apply Z;refine zI ?_ ?_<;>intro c1<;>try simp at c1
  . apply zA
    apply aR;refine zk [0,1,2,6,7,8,9,10,11] ?_;refine zr q27_1 fun _ _ Z=>?_;simp(disch:=omega)[hN,dZ,eA];and_intros<;>(try omega);apply Z;refine zk [0,1,2,6,7,8,9,10,11] ?_;refine zr q27_1 fun _ _ Z=>?_;refine zs 6 fun _ Y=>?_;simp(disch:=omega)[hN,dZ,eA];and_intros<;>(try omega);apply Y;refine aE fun _ Y=>?_;simp(disch:=omega)[hN,dZ,eA];refine cH (aB2 l[(lo+hi) / 2] c _) ?_;apply Y;simp(disch:=omega)[hN,dZ,eA];apply Z;refine zI ?_ ?_<;>intro c2<;>try simp at c2
    . refine zk [0,1,2,6,7,8,9,10,11] ?_
      refine zt q27_1 fun _ _ Z=>?_;simp(disch:=omega)[hN,dZ,eA];and_intros<;>(try omega);apply Z;apply kY;refine zq (((lo+hi) / 2+1,hi)) ?_ ?_ ?_
      . exact⟨by dsimp only;omega,by dsimp only;omega,aRl nA hs (by omega) (by simpa [Jk] using c2),h4⟩
      . try dsimp only
        omega
      simp(disch:=omega)[hN,dZ,eA]
    refine zk [0,1,2,6,7,8,9,10,11] ?_;refine zt q27_1 fun _ _ Z=>?_;simp(disch:=omega)[hN,dZ,eA];apply Z;apply kY;refine zq ((lo,(lo+hi) / 2)) ?_ ?_ ?_
    . exact⟨by dsimp only;omega,by dsimp only;omega,h3,aQz nA hs (by omega) ((aCe _ _).1 (by omega))⟩
    . try dsimp only
      omega
    simp(disch:=omega)[hN,dZ,eA]
  obtain rfl:lo=hi:=by omega
  have hpos:lG nA l c=lo:=Sb nA l c lo h2 h3 (fun h=>h4 lo h (bC _));apply zE;refine zk [0,1,2,6,7,8,9] ?_;refine lS q27_1 fun all hall _ Z=>?_;have ga4:aN all 4=some 39:=hall 4;refine zs 5 fun _ Y=>?_;simp(disch:=omega)[hN,dZ,eA,ga4];apply Y;refine zb 39 ?_ ?_<;>intro g3<;>try simp at g3
  . refine zs 6 fun _ Y=>?_
    simp(disch:=omega)[hN,dZ,eA,ga4];and_intros<;>(try omega);apply Y;refine zg ga4 fun _ Y=>?_;simp(disch:=omega)[hN,dZ,eA,ga4];refine cH (aB2 l[lo] c _) ?_;apply Y;simp(disch:=omega)[hN,dZ,eA,ga4];apply Z;apply aC;simp [aI,hpos,Rd, *];exact Pt _ _
  refine zs 8 fun _ Y=>?_;simp(disch:=omega)[hN,dZ,eA,ga4];and_intros<;>(try omega);apply Y;simp(disch:=omega)[hN,dZ,eA,ga4];apply Z;apply aC;simp [aI,hpos, *];exact Hu _ _ _ (by omega)
theorem Rl(N cap:Nat)(l:List AT)(rest:List D)(c:ByteArray)(σ:List (List D))(hl:l.length<=1000000)(hN:σ[N]?=some (l.flatMap cA++rest))(hs:Sorted nA l):Ct prog 198 [.slo N 0 l.length cap,D.str c] σ (fun r σ'=>r= .tup [.int ((lG nA l c:Nat):Int),.bool (Lp nA l c)]/\σ'=σ):=by
  refine zf func198 ?_;refine aZ fun _ _ Z=>?_;simp[hN];apply Z;refine aZ fun _ _ Z=>?_;refine zs 2 fun _ Y=>?_;simp[hN];apply Y;refine aE fun _ Y=>?_;simp[hN];refine cH (aRs N cap l rest c _ hl hN hs) ?_;apply Y;simp[hN];apply Z;apply aC;simp [aI]
@[simp] abbrev q27_2:Cfg:=⟨[4,19,20,24],[],[],[18],[]⟩
theorem aGw(l:List AT)(p:AT)(σ:List (List D))(hl:l.length<=999999)(hs:Sorted nA l):Ct prog 187 [.xs 2 (l.map cW),cW p] σ (fun r σ'=>r= .xs 2 ((fO nA l p).map cW)/\∃J,σ'=σ++J):=by
  refine zf func187 ?_;refine iL 0 2 rfl (by decide) fun cap rest hcap hcm hrest hk0 hes=>?_;subst hrest;simp only [bS] at hcap |-;rw [cU (f:=cA) (fun _=>rfl)];have hpl:=Rh nA l p.name;refine zr q27_2 fun _ _ Z=>?_;simp(disch:=omega)[aJ,aG];apply Z;refine zr q27_2 fun _ _ Z=>?_;refine zs 3 fun _ Y=>?_;simp(disch:=omega)[aJ,aG];apply Y;refine aE fun _ Y=>?_;simp(disch:=omega)[aJ,aG];refine cH (Rl σ.length cap l (List.replicate ((cap - l.length) * 2) .any) p.name _ (by omega) (by simp [aJ]) hs) ?_;apply Y;simp(disch:=omega)[aJ,aG];apply Z;apply aF;refine zr q27_2 fun _ _ Z=>?_;simp(disch:=omega)[aJ,aG];apply Z;refine zI ?_ ?_<;>intro c1<;>try simp at c1
  . have hlt := zY nA c1
    refine zk [0,3,4,5] ?_;refine zr q27_2 fun _ _ Z=>?_;simp(disch:=omega)[aJ,aG];and_intros<;>(try omega);apply Z;refine zr q27_2 fun _ _ Z=>?_;simp(disch:=omega)[aJ,aG];apply Z;refine fF 4 2 σ.length l.length cap ((l.set (lG nA l p.name) p).map cW) ((l.set (lG nA l p.name) p).flatMap cA++List.replicate ((cap - l.length) * 2) .any) (by simp <;> rfl) (by simp [aJ]) (by omega) (by simp only [bB,dG (f:=cA) (k:=2) (fun _=>rfl),cO,cF];omega) (by simp) (mH (d:=cW) (fun _=>⟨rfl,rfl⟩) _) (by rw [cU (f:=cA) (fun _=>rfl)];exact cZ _ _) ?_;apply aC;simp [aI,Bg,c1]
  apply zA;refine fF 0 2 σ.length l.length cap (l.map cW) (l.flatMap cA++List.replicate ((cap - l.length) * 2) .any) (by simp <;> rfl) (by simp [aJ]) (by omega) (by simp only [bB,dG (f:=cA) (k:=2) (fun _=>rfl),cO,cF];omega) (by simp) (mH (d:=cW) (fun _=>⟨rfl,rfl⟩) _) (by rw [cU (f:=cA) (fun _=>rfl)];exact cZ _ _) ?_;refine zk [0,3,4,5] ?_;refine zr q27_2 fun _ _ Z=>?_;refine zs 4 fun _ Y=>?_;simp(disch:=omega)[aJ,aG];and_intros<;>(try omega);apply Y;refine aE fun _ Y=>?_;simp(disch:=omega)[aJ,aG];refine cH (aPf l p (lG nA l p.name) _ (by omega) hpl) ?_;apply Y;simp(disch:=omega)[aJ,aG];apply Z;apply aC;simp [aI,Bg,c1]
theorem aA4(l:List AT)(p:AT)(σ:List (List D))(hl:l.length<=999999)(hs:Sorted nA l):Ct prog 187 [.xs 2 (l.map cW),cW p] σ (fun r σ'=>r= .xs 2 ((fO nA l p).map cW)/\σ'=σ):=
  (aGw l p σ hl hs).trim fun r σ' ⟨hr,J,hs⟩=>⟨σ,J,hs,rfl,by rw [hr];exact aTz _ _,fun n cs h=> .inl h,hr,rfl⟩
theorem wF(l:List AT)(rest:List D)(i:Nat)(h:i<l.length):zK false 1 ((l.flatMap cA++rest).drop (i * 2+1))=some (D.str l[i].value):=Tb (f:=cA) (k:=2) (fun _=>rfl) l rest i 1 h (by decide)
@[simp] abbrev q27_3:Cfg:=⟨[2,3,12,14,16],[],[],[],[]⟩
theorem Dl(l:List AT)(σ:List (List D))(hl:l.length<=999999):Ct prog 107 [.sl false (l.map cW)] σ (fun r σ'=>r= .xs 2 ((hU nA l).map cW)/\σ'=σ):=by
  refine zf func107 ?_;refine zr q27_3 fun _ _ Z=>?_;simp(disch:=omega);apply Z;refine zr q27_3 fun _ _ Z=>?_;simp(disch:=omega);apply Z;apply aF;refine zr q27_3 fun _ _ Z=>?_;simp(disch:=omega);and_intros<;>(try omega);apply Z;apply aR;refine zk [2,3,6,7,8] ?_;refine Bw 3 2 (by simp <;> rfl) ?_;refine aY (fun(k:Nat)=> [(8,.d (.v (.int .i64 (k:Int)))),(3,.d (.xs 2 ((hU nA (l.take k)).map cW)))]) [3,5,8,9,10,11,12,13,14,15] (fun(k:Nat)=>k<=l.length) (fun(k:Nat)=>l.length - k) (0) (by simp <;> rfl) ?_ ?_ ?_
  . simp [hU]
  . simp
  rintro k hk;simp only [aQ,aP];have hol:=iD nA (l.take k);simp only [bE] at hol;refine zr q27_3 fun _ _ Z=>?_;simp(disch:=omega);apply Z;apply aF;refine zI ?_ ?_<;>intro c1<;>try simp at c1
  . apply jY
    refine zr q27_3 fun _ _ Z=>?_;simp(disch:=omega);and_intros<;>(try omega);apply Z;refine zt q27_3 fun _ _ Z=>?_;refine zs 2 fun _ Y=>?_;simp(disch:=omega);apply Y;refine aE fun _ Y=>?_;simp(disch:=omega);refine cH (aA4 (hU nA (l.take k)) l[k] _ (by omega) (gK nA _)) ?_;apply Y;simp(disch:=omega);apply Z;apply zB;refine zk [2,3,6,7,8] ?_;refine zt q27_3 fun _ _ Z=>?_;simp(disch:=omega);and_intros<;>(try omega);apply Z;refine zq (k+1) ?_ ?_ ?_
    . omega
    . try dsimp only
      omega
    simp(disch:=omega)[Iy]
  apply zE;refine zr q27_3 fun _ _ Z=>?_;simp(disch:=omega);apply Z;apply aC;simp [aI];rw [bX (by omega)]
@[simp] abbrev q27_4:Cfg:=⟨[6,11],[],[],[21],[]⟩
theorem aIu(l:List AT)(c:ByteArray)(σ:List (List D))(hl:l.length<=999999):Ct prog 234 [.sl false (l.map cW),D.str c] σ (fun r σ'=>(∃v:ByteArray,r= .tup [D.str v,.bool (Lp nA (hU nA l) c)])/\∃J,σ'=σ++J):=by
  refine zf func234 ?_;have hol:=iD nA l;refine zr q27_4 fun _ _ Z=>?_;simp(disch:=omega)[aJ,aG,wF];apply Z;refine zr q27_4 fun _ _ Z=>?_;refine zs 1 fun _ Y=>?_;simp(disch:=omega)[aJ,aG,wF];apply Y;refine aE fun _ Y=>?_;simp(disch:=omega)[aJ,aG,wF];refine cH (Dl l _ hl) ?_;apply Y;simp(disch:=omega)[aJ,aG,wF];apply Z;apply aF;refine iL 6 2 rfl (by decide) fun cap rest hcap hcm hrest hk0 hes=>?_;subst hrest;simp only [bS] at hcap |-;rw [cU (f:=cA) (fun _=>rfl)];refine zr q27_4 fun _ _ Z=>?_;refine zs 2 fun _ Y=>?_;simp(disch:=omega)[aJ,aG,wF];apply Y;refine aE fun _ Y=>?_;simp(disch:=omega)[aJ,aG,wF];refine cH (Rl σ.length cap (hU nA l) (List.replicate ((cap - (hU nA l).length) * 2) .any) c _ (by omega) (by simp [aJ]) (gK nA l)) ?_;apply Y;simp(disch:=omega)[aJ,aG,wF];apply Z;refine zk [4,5,6,7,8] ?_;refine zr q27_4 fun _ _ Z=>?_;simp(disch:=omega)[aJ,aG,wF];apply Z;refine zI ?_ ?_<;>intro c1<;>try simp at c1
  . have hlt := zY nA c1
    refine zr q27_4 fun _ _ Z=>?_;simp(disch:=omega)[aJ,aG,wF];and_intros<;>(try omega);apply Z;apply aC;simp [aI,c1]
  apply zA;refine zr q27_4 fun _ _ Z=>?_;simp(disch:=omega)[aJ,aG,wF];apply Z;refine zr q27_4 fun _ _ Z=>?_;simp(disch:=omega)[aJ,aG,wF];apply Z;apply aC;simp [aI,c1]
theorem aBe(l:List AT)(c:ByteArray)(σ:List (List D))(hl:l.length<=999999)(hs:Sorted nA l):Ct prog 234 [.sl false (l.map cW),D.str c] σ (fun r σ'=>(∃v:ByteArray,r= .tup [D.str v,.bool (lQ nA l c)])/\σ'=σ):=
  (aIu l c σ hl).trim fun r σ' ⟨⟨v,hr⟩,J,hs'⟩=>⟨σ,J,hs',rfl,by rw [hr];exact Sc.tup fun d hd=>by simp at hd;rcases hd with rfl | rfl <;> exact Sc.v _,fun n cs h=> .inl h,⟨v,by rw [hr,rG nA hs,Hv nA hs]⟩,rfl⟩
theorem aK3(l:List AT)(c:ByteArray)(v:ByteArray)(σ:List (List D))(hl:l.length<=99999):Ct prog 182 [.sl false (l.map cW),D.str c,D.str v] σ (fun r σ'=>r= .xs 2 ((fO nA (hU nA l) ⟨c,v⟩).map cW)/\σ'=σ):=by
  refine zf func182 ?_;have hol:=iD nA l;refine zr ⟨[6,9,10,12],[],[],[],[]⟩ fun _ _ Z=>?_;simp;apply Z;refine zr ⟨[6,9,10,12],[],[],[],[]⟩ fun _ _ Z=>?_;refine zs 1 fun _ Y=>?_;simp;apply Y;refine aE fun _ Y=>?_;simp;refine cH (Dl l _ (by omega)) ?_;apply Y;refine zs 3 fun _ Y=>?_;simp;apply Y;refine aE fun _ Y=>?_;simp;refine cH (aA4 (hU nA l) ⟨c,v⟩ _ (by omega) (gK nA l)) ?_;apply Y;simp;apply Z;apply aC;simp [aI]
theorem aN8(l:List AT)(p:AT->Bool)(f:FuncId)(caps:List D)(σ:List (List D))(hl:l.length<=99999)(hcp:∀d∈caps,d.plain=true)(hcs:caps.map D.strip=caps)(hp:∀x τ,Ct prog f (cW x::caps) τ (fun r τ'=>r= .bool (p x)/\τ'=τ)):Ct prog 259 [.sl false (l.map cW),.clo (.func f) [] caps] σ (fun r σ'=>r= .xs 2 (((hU nA l).filter fun x=> !p x).map cW)/\σ'=σ):=by
  refine zf func259 ?_;have hol:=iD nA l;refine zr ⟨[4,7,8],[],[],[],[]⟩ fun _ _ Z=>?_;simp;apply Z;refine zr ⟨[4,7,8],[],[],[],[]⟩ fun _ _ Z=>?_;refine zs 1 fun _ Y=>?_;simp;apply Y;refine aE fun _ Y=>?_;simp;refine cH (Dl l _ (by omega)) ?_;apply Y;refine zs 1 fun _ Y=>?_;simp;apply Y;refine aE fun _ Y=>?_;simp;refine cH (Yh (hU nA l) p f caps _ (by omega) hcp hcs hp) ?_;apply Y;simp;apply Z;apply aC;simp [aI]
theorem aE9(x:AT)(c:ByteArray)(σ:List (List D))  :Ct prog 260 [cW x,.adr [D.str c]] σ (fun r σ'=>r= .bool (decide (x.name=c))/\σ'=σ):=by
  refine zf func260 ?_;refine aZ fun _ _ Z=>?_;simp;apply Z;refine aZ fun _ _ Z=>?_;simp;apply Z;apply aC;simp[aI]
theorem aEs(l:List AT)(c:ByteArray)(σ:List (List D))(hl:l.length<=99999):Ct prog 235 [.sl false (l.map cW),D.str c] σ (fun r σ'=>r= .xs 2 ((lA nA (hU nA l) c).map cW)/\σ'=σ):=by
  refine zf func235 ?_;refine zr ⟨[4],[3],[],[],[]⟩ fun _ _ Z=>?_;simp;apply Z;refine zr ⟨[4],[3],[],[],[]⟩ fun _ _ Z=>?_;refine zs 2 fun _ Y=>?_;simp;and_intros<;>(try omega);apply Y;refine aE fun _ Y=>?_;simp;refine cH (aN8 l (fun x=>decide (x.name=c)) 260 [.adr [D.str c]] _ hl (by simp) (by simp) (fun x τ=>aE9 x c τ)) ?_;apply Y;simp;apply Z;apply aC;simp [aI,lA]
theorem aCl(l:List AT)(c:ByteArray)(v:ByteArray)(σ:List (List D))(hl:l.length<=99999)(hs:Sorted nA l):Ct prog 182 [.sl false (l.map cW),D.str c,D.str v] σ (fun r σ'=>r= .sl false ((fO nA l ⟨c,v⟩).map cW)/\σ'=σ):=
  (aK3 l c v σ hl).freeze fun r σ' h=>by rw [rG nA hs] at h;exact h
theorem aK1(l:List AT)(c:ByteArray)(σ:List (List D))(hl:l.length<=99999)(hs:Sorted nA l):Ct prog 235 [.sl false (l.map cW),D.str c] σ (fun r σ'=>r= .sl false ((lA nA l c).map cW)/\σ'=σ):=
  (aEs l c σ hl).freeze fun r σ' h=>by rw [rG nA hs] at h;exact h
theorem aBr(x:PI)(s:ByteArray)(σ:List (List D))  :Ct prog 237 [cQ x,D.str s] σ (fun r σ'=>r= .int (Iw x.name s)/\σ'=σ):=by
  refine zf func237 ?_;refine aZ fun _ _ Z=>?_;simp;apply Z;refine aZ fun _ _ Z=>?_;refine zs 3 fun _ Y=>?_;simp;apply Y;refine aE fun _ Y=>?_;simp;refine cH (Li x.name s _) ?_;apply Y;simp;apply Z;apply aC;simp [aI]
theorem aSx (N cap : Nat) (l : List PI) (rest : List D) (c : ByteArray) (σ : List (List D)) (hl : l.length <= 1000000) (hN : σ[N]? = some (l.flatMap cP ++ rest)) (hs : Sorted nP l) : Ct prog 236 [.slo N 0 l.length cap, D.str c, .clo (.func 237) [] []] σ (fun r σ' => r = .tup [.int ((lG nP l c : Nat) : Int), .bool (Lp nP l c)] /\ σ' = σ) := by
  refine zf func236 ?_;refine zr q27_1 fun _ _ Z=>?_;simp(disch:=omega)[hN,dZ,eA];apply Z;refine zr q27_1 fun _ _ Z=>?_;simp(disch:=omega)[hN,dZ,eA];and_intros<;>(try omega);apply Z;refine zr q27_1 fun _ _ Z=>?_;simp(disch:=omega)[hN,dZ,eA];apply Z;apply Sy;refine zk [0,1,2,6,7,8,9,10] ?_;refine aY (fun(s:Nat×Nat)=> [(9,.d (.v (.int .i64 (s.1:Int)))),(10,.d (.v (.int .i64 (s.2:Int)))),(11,.d (.any))]) [9,10,11,15,16,17,18,19,20,21,22,23,24,25,26,27,28,29,30,31,32,33,34] (fun(s:Nat×Nat)=>s.1<=s.2/\s.2<=l.length/\(∀j (h:j<l.length),j<s.1->dO l[j].name c=true)/\(∀j (h:j<l.length),s.2<=j->dO l[j].name c=false)) (fun(s:Nat×Nat)=>s.2 - s.1) ((0,l.length)) (by simp <;> rfl) ?_ ?_ ?_
  . simp
  . exact⟨by omega,by omega,fun j h h2=>absurd h2 (by simp),fun j h h2=>absurd h2 (by simp;omega)⟩
  rintro⟨lo,hi⟩ ⟨h1,h2,h3,h4⟩;simp only [aQ,aP];dsimp only at h1 h2 h3 h4;have hmid:lo<hi->(lo+hi) / 2<hi:=fun h=>by omega
  apply aF;refine zr q27_1 fun _ _ Z=>?_;simp(disch:=omega)[hN,dZ,eA];apply Z;refine zI ?_ ?_<;>intro c1<;>try simp at c1
  . apply zA
    apply aR;refine zk [0,1,2,6,7,8,9,10,11] ?_;refine zr q27_1 fun _ _ Z=>?_;simp(disch:=omega)[hN,dZ,eA];and_intros<;>(try omega);apply Z;refine zk [0,1,2,6,7,8,9,10,11] ?_;refine zr q27_1 fun _ _ Z=>?_;refine zs 6 fun _ Y=>?_;simp(disch:=omega)[hN,dZ,eA];and_intros<;>(try omega);apply Y;refine aE fun _ Y=>?_;simp(disch:=omega)[hN,dZ,eA];refine cH (aBr l[(lo+hi) / 2] c _) ?_;apply Y;simp(disch:=omega)[hN,dZ,eA];apply Z;refine zI ?_ ?_<;>intro c2<;>try simp at c2
    . refine zk [0,1,2,6,7,8,9,10,11] ?_
      refine zt q27_1 fun _ _ Z=>?_;simp(disch:=omega)[hN,dZ,eA];and_intros<;>(try omega);apply Z;apply kY;refine zq (((lo+hi) / 2+1,hi)) ?_ ?_ ?_
      . exact⟨by dsimp only;omega,by dsimp only;omega,aRl nP hs (by omega) (by simpa [Jk] using c2),h4⟩
      . try dsimp only
        omega
      simp(disch:=omega)[hN,dZ,eA]
    refine zk [0,1,2,6,7,8,9,10,11] ?_;refine zt q27_1 fun _ _ Z=>?_;simp(disch:=omega)[hN,dZ,eA];apply Z;apply kY;refine zq ((lo,(lo+hi) / 2)) ?_ ?_ ?_
    . exact⟨by dsimp only;omega,by dsimp only;omega,h3,aQz nP hs (by omega) ((aCe _ _).1 (by omega))⟩
    . try dsimp only
      omega
    simp(disch:=omega)[hN,dZ,eA]
  obtain rfl:lo=hi:=by omega
  have hpos:lG nP l c=lo:=Sb nP l c lo h2 h3 (fun h=>h4 lo h (bC _));apply zE;refine zk [0,1,2,6,7,8,9] ?_;refine lS q27_1 fun all hall _ Z=>?_;have ga4:aN all 4=some 39:=hall 4;refine zs 5 fun _ Y=>?_;simp(disch:=omega)[hN,dZ,eA,ga4];apply Y;refine zb 39 ?_ ?_<;>intro g3<;>try simp at g3
  . refine zs 6 fun _ Y=>?_
    simp(disch:=omega)[hN,dZ,eA,ga4];and_intros<;>(try omega);apply Y;refine zg ga4 fun _ Y=>?_;simp(disch:=omega)[hN,dZ,eA,ga4];refine cH (aBr l[lo] c _) ?_;apply Y;simp(disch:=omega)[hN,dZ,eA,ga4];apply Z;apply aC;simp [aI,hpos,Rd, *];exact Pt _ _
  refine zs 8 fun _ Y=>?_;simp(disch:=omega)[hN,dZ,eA,ga4];and_intros<;>(try omega);apply Y;simp(disch:=omega)[hN,dZ,eA,ga4];apply Z;apply aC;simp [aI,hpos, *];exact Hu _ _ _ (by omega)
theorem Rz(N cap:Nat)(l:List PI)(rest:List D)(c:ByteArray)(σ:List (List D))(hl:l.length<=1000000)(hN:σ[N]?=some (l.flatMap cP++rest))(hs:Sorted nP l):Ct prog 201 [.slo N 0 l.length cap,D.str c] σ (fun r σ'=>r= .tup [.int ((lG nP l c:Nat):Int),.bool (Lp nP l c)]/\σ'=σ):=by
  refine zf func201 ?_;refine aZ fun _ _ Z=>?_;simp[hN];apply Z;refine aZ fun _ _ Z=>?_;refine zs 2 fun _ Y=>?_;simp[hN];apply Y;refine aE fun _ Y=>?_;simp[hN];refine cH (aSx N cap l rest c _ hl hN hs) ?_;apply Y;simp[hN];apply Z;apply aC;simp [aI]
theorem aI3(l:List PI)(p:PI)(σ:List (List D))(hl:l.length<=999999)(hs:Sorted nP l):Ct prog 188 [.xs 2 (l.map cQ),cQ p] σ (fun r σ'=>r= .xs 2 ((fO nP l p).map cQ)/\∃J,σ'=σ++J):=by
  refine zf func188 ?_;refine iL 0 2 rfl (by decide) fun cap rest hcap hcm hrest hk0 hes=>?_;subst hrest;simp only [bS] at hcap |-;rw [cU (f:=cP) (fun _=>rfl)];have hpl:=Rh nP l p.name;refine zr q27_2 fun _ _ Z=>?_;simp(disch:=omega)[aJ,aG];apply Z;refine zr q27_2 fun _ _ Z=>?_;refine zs 3 fun _ Y=>?_;simp(disch:=omega)[aJ,aG];apply Y;refine aE fun _ Y=>?_;simp(disch:=omega)[aJ,aG];refine cH (Rz σ.length cap l (List.replicate ((cap - l.length) * 2) .any) p.name _ (by omega) (by simp [aJ]) hs) ?_;apply Y;simp(disch:=omega)[aJ,aG];apply Z;apply aF;refine zr q27_2 fun _ _ Z=>?_;simp(disch:=omega)[aJ,aG];apply Z;refine zI ?_ ?_<;>intro c1<;>try simp at c1
  . have hlt := zY nP c1
    refine zk [0,3,4,5] ?_;refine zr q27_2 fun _ _ Z=>?_;simp(disch:=omega)[aJ,aG];and_intros<;>(try omega);apply Z;refine zr q27_2 fun _ _ Z=>?_;simp(disch:=omega)[aJ,aG];apply Z;refine fF 4 2 σ.length l.length cap ((l.set (lG nP l p.name) p).map cQ) ((l.set (lG nP l p.name) p).flatMap cP++List.replicate ((cap - l.length) * 2) .any) (by simp <;> rfl) (by simp [aJ]) (by omega) (by simp only [bB,dG (f:=cP) (k:=2) (fun _=>rfl),cO,cF];omega) (by simp) (mH (d:=cQ) (fun _=>⟨rfl,rfl⟩) _) (by rw [cU (f:=cP) (fun _=>rfl)];exact cZ _ _) ?_;apply aC;simp [aI,Bg,c1]
  apply zA;refine fF 0 2 σ.length l.length cap (l.map cQ) (l.flatMap cP++List.replicate ((cap - l.length) * 2) .any) (by simp <;> rfl) (by simp [aJ]) (by omega) (by simp only [bB,dG (f:=cP) (k:=2) (fun _=>rfl),cO,cF];omega) (by simp) (mH (d:=cQ) (fun _=>⟨rfl,rfl⟩) _) (by rw [cU (f:=cP) (fun _=>rfl)];exact cZ _ _) ?_;refine zk [0,3,4,5] ?_;refine zr q27_2 fun _ _ Z=>?_;refine zs 4 fun _ Y=>?_;simp(disch:=omega)[aJ,aG];and_intros<;>(try omega);apply Y;refine aE fun _ Y=>?_;simp(disch:=omega)[aJ,aG];refine cH (aNw l p (lG nP l p.name) _ (by omega) hpl) ?_;apply Y;simp(disch:=omega)[aJ,aG];apply Z;apply aC;simp [aI,Bg,c1]
theorem aB5(l:List PI)(p:PI)(σ:List (List D))(hl:l.length<=999999)(hs:Sorted nP l):Ct prog 188 [.xs 2 (l.map cQ),cQ p] σ (fun r σ'=>r= .xs 2 ((fO nP l p).map cQ)/\σ'=σ):=
  (aI3 l p σ hl hs).trim fun r σ' ⟨hr,J,hs⟩=>⟨σ,J,hs,rfl,by rw [hr];exact aTf _ _,fun n cs h=> .inl h,hr,rfl⟩
theorem xE(l:List PI)(rest:List D)(i:Nat)(h:i<l.length):zK false 1 ((l.flatMap cP++rest).drop (i * 2+1))=some (D.int l[i].value):=Tb (f:=cP) (k:=2) (fun _=>rfl) l rest i 1 h (by decide)
theorem Ei(l:List PI)(σ:List (List D))(hl:l.length<=999999):Ct prog 108 [.sl false (l.map cQ)] σ (fun r σ'=>r= .xs 2 ((hU nP l).map cQ)/\σ'=σ):=by
  refine zf func108 ?_;refine zr q27_3 fun _ _ Z=>?_;simp(disch:=omega);apply Z;refine zr q27_3 fun _ _ Z=>?_;simp(disch:=omega);apply Z;apply aF;refine zr q27_3 fun _ _ Z=>?_;simp(disch:=omega);and_intros<;>(try omega);apply Z;apply aR;refine zk [2,3,6,7,8] ?_;refine Bw 3 2 (by simp <;> rfl) ?_;refine aY (fun(k:Nat)=> [(8,.d (.v (.int .i64 (k:Int)))),(3,.d (.xs 2 ((hU nP (l.take k)).map cQ)))]) [3,5,8,9,10,11,12,13,14,15] (fun(k:Nat)=>k<=l.length) (fun(k:Nat)=>l.length - k) (0) (by simp <;> rfl) ?_ ?_ ?_
  . simp [hU]
  . simp
  rintro k hk;simp only [aQ,aP];have hol:=iD nP (l.take k);simp only [bE] at hol;refine zr q27_3 fun _ _ Z=>?_;simp(disch:=omega);apply Z;apply aF;refine zI ?_ ?_<;>intro c1<;>try simp at c1
  . apply jY
    refine zr q27_3 fun _ _ Z=>?_;simp(disch:=omega);and_intros<;>(try omega);apply Z;refine zt q27_3 fun _ _ Z=>?_;refine zs 2 fun _ Y=>?_;simp(disch:=omega);apply Y;refine aE fun _ Y=>?_;simp(disch:=omega);refine cH (aB5 (hU nP (l.take k)) l[k] _ (by omega) (gK nP _)) ?_;apply Y;simp(disch:=omega);apply Z;apply zB;refine zk [2,3,6,7,8] ?_;refine zt q27_3 fun _ _ Z=>?_;simp(disch:=omega);and_intros<;>(try omega);apply Z;refine zq (k+1) ?_ ?_ ?_
    . omega
    . try dsimp only
      omega
    simp(disch:=omega)[Iy]
  apply zE;refine zr q27_3 fun _ _ Z=>?_;simp(disch:=omega);apply Z;apply aC;simp [aI];rw [bX (by omega)]
theorem aG1(l:List PI)(c:ByteArray)(σ:List (List D))(hl:l.length<=999999):Ct prog 239 [.sl false (l.map cQ),D.str c] σ (fun r σ'=>(∃v:Int,r= .tup [D.int v,.bool (Lp nP (hU nP l) c)])/\∃J,σ'=σ++J):=by
  refine zf func239 ?_;have hol:=iD nP l;refine zr q27_4 fun _ _ Z=>?_;simp(disch:=omega)[aJ,aG,xE];apply Z;refine zr q27_4 fun _ _ Z=>?_;refine zs 1 fun _ Y=>?_;simp(disch:=omega)[aJ,aG,xE];apply Y;refine aE fun _ Y=>?_;simp(disch:=omega)[aJ,aG,xE];refine cH (Ei l _ hl) ?_;apply Y;simp(disch:=omega)[aJ,aG,xE];apply Z;apply aF;refine iL 6 2 rfl (by decide) fun cap rest hcap hcm hrest hk0 hes=>?_;subst hrest;simp only [bS] at hcap |-;rw [cU (f:=cP) (fun _=>rfl)];refine zr q27_4 fun _ _ Z=>?_;refine zs 2 fun _ Y=>?_;simp(disch:=omega)[aJ,aG,xE];apply Y;refine aE fun _ Y=>?_;simp(disch:=omega)[aJ,aG,xE];refine cH (Rz σ.length cap (hU nP l) (List.replicate ((cap - (hU nP l).length) * 2) .any) c _ (by omega) (by simp [aJ]) (gK nP l)) ?_;apply Y;simp(disch:=omega)[aJ,aG,xE];apply Z;refine zk [4,5,6,7,8] ?_;refine zr q27_4 fun _ _ Z=>?_;simp(disch:=omega)[aJ,aG,xE];apply Z;refine zI ?_ ?_<;>intro c1<;>try simp at c1
  . have hlt := zY nP c1
    refine zr q27_4 fun _ _ Z=>?_;simp(disch:=omega)[aJ,aG,xE];and_intros<;>(try omega);apply Z;apply aC;simp [aI,c1]
  apply zA;refine zr q27_4 fun _ _ Z=>?_;simp(disch:=omega)[aJ,aG,xE];apply Z;refine zr q27_4 fun _ _ Z=>?_;simp(disch:=omega)[aJ,aG,xE];apply Z;apply aC;simp [aI,c1]
theorem aAv(l:List PI)(c:ByteArray)(σ:List (List D))(hl:l.length<=999999)(hs:Sorted nP l):Ct prog 239 [.sl false (l.map cQ),D.str c] σ (fun r σ'=>(∃v:Int,r= .tup [D.int v,.bool (lQ nP l c)])/\σ'=σ):=
  (aG1 l c σ hl).trim fun r σ' ⟨⟨v,hr⟩,J,hs'⟩=>⟨σ,J,hs',rfl,by rw [hr];exact Sc.tup fun d hd=>by simp at hd;rcases hd with rfl | rfl <;> exact Sc.v _,fun n cs h=> .inl h,⟨v,by rw [hr,rG nP hs,Hv nP hs]⟩,rfl⟩
theorem aHn(l:List PI)(c:ByteArray)(v:Int)(σ:List (List D))(hl:l.length<=99999):Ct prog 183 [.sl false (l.map cQ),D.str c,D.int v] σ (fun r σ'=>r= .xs 2 ((fO nP (hU nP l) ⟨c,v⟩).map cQ)/\σ'=σ):=by
  refine zf func183 ?_;have hol:=iD nP l;refine zr ⟨[6,9,10,12],[],[],[],[]⟩ fun _ _ Z=>?_;simp;apply Z;refine zr ⟨[6,9,10,12],[],[],[],[]⟩ fun _ _ Z=>?_;refine zs 1 fun _ Y=>?_;simp;apply Y;refine aE fun _ Y=>?_;simp;refine cH (Ei l _ (by omega)) ?_;apply Y;refine zs 3 fun _ Y=>?_;simp;apply Y;refine aE fun _ Y=>?_;simp;refine cH (aB5 (hU nP l) ⟨c,v⟩ _ (by omega) (gK nP l)) ?_;apply Y;simp;apply Z;apply aC;simp [aI]
theorem aOy(l:List PI)(p:PI->Bool)(f:FuncId)(caps:List D)(σ:List (List D))(hl:l.length<=99999)(hcp:∀d∈caps,d.plain=true)(hcs:caps.map D.strip=caps)(hp:∀x τ,Ct prog f (cQ x::caps) τ (fun r τ'=>r= .bool (p x)/\τ'=τ)):Ct prog 261 [.sl false (l.map cQ),.clo (.func f) [] caps] σ (fun r σ'=>r= .xs 2 (((hU nP l).filter fun x=> !p x).map cQ)/\σ'=σ):=by
  refine zf func261 ?_;have hol:=iD nP l;refine zr ⟨[4,7,8],[],[],[],[]⟩ fun _ _ Z=>?_;simp;apply Z;refine zr ⟨[4,7,8],[],[],[],[]⟩ fun _ _ Z=>?_;refine zs 1 fun _ Y=>?_;simp;apply Y;refine aE fun _ Y=>?_;simp;refine cH (Ei l _ (by omega)) ?_;apply Y;refine zs 1 fun _ Y=>?_;simp;apply Y;refine aE fun _ Y=>?_;simp;refine cH (aAk (hU nP l) p f caps _ (by omega) hcp hcs hp) ?_;apply Y;simp;apply Z;apply aC;simp [aI]
theorem aCu(x:PI)(c:ByteArray)(σ:List (List D))  :Ct prog 262 [cQ x,.adr [D.str c]] σ (fun r σ'=>r= .bool (decide (x.name=c))/\σ'=σ):=by
  refine zf func262 ?_;refine aZ fun _ _ Z=>?_;simp;apply Z;refine aZ fun _ _ Z=>?_;simp;apply Z;apply aC;simp[aI]
theorem aC8(l:List PI)(c:ByteArray)(σ:List (List D))(hl:l.length<=99999):Ct prog 240 [.sl false (l.map cQ),D.str c] σ (fun r σ'=>r= .xs 2 ((lA nP (hU nP l) c).map cQ)/\σ'=σ):=by
  refine zf func240 ?_;refine zr ⟨[4],[3],[],[],[]⟩ fun _ _ Z=>?_;simp;apply Z;refine zr ⟨[4],[3],[],[],[]⟩ fun _ _ Z=>?_;refine zs 2 fun _ Y=>?_;simp;and_intros<;>(try omega);apply Y;refine aE fun _ Y=>?_;simp;refine cH (aOy l (fun x=>decide (x.name=c)) 262 [.adr [D.str c]] _ hl (by simp) (by simp) (fun x τ=>aCu x c τ)) ?_;apply Y;simp;apply Z;apply aC;simp [aI,lA]
theorem Ch(l:List PI)(c:ByteArray)(v:Int)(σ:List (List D))(hl:l.length<=99999)(hs:Sorted nP l):Ct prog 183 [.sl false (l.map cQ),D.str c,D.int v] σ (fun r σ'=>r= .sl false ((fO nP l ⟨c,v⟩).map cQ)/\σ'=σ):=
  (aHn l c v σ hl).freeze fun r σ' h=>by rw [rG nP hs] at h;exact h
theorem aLz(l:List PI)(c:ByteArray)(σ:List (List D))(hl:l.length<=99999)(hs:Sorted nP l):Ct prog 240 [.sl false (l.map cQ),D.str c] σ (fun r σ'=>r= .sl false ((lA nP l c).map cQ)/\σ'=σ):=
  (aC8 l c σ hl).freeze fun r σ' h=>by rw [rG nP hs] at h;exact h
section
variable {o:List AT} {b:Bool} {x p:AT}
theorem Fk(hb:b=false)(h:Op.bytesLess x.name.toList p.name.toList=false)(e:x.name=p.name):mM nA p (o,b) x=(o++ [p],true):=by
  have e':nA x=nA p:=e;have h2:b=false/\dO (nA x) (nA p)=false:=⟨hb,h⟩;unfold mM;dsimp only;rw [if_pos e',if_pos h2]
theorem Fu(hb:b=false)(h:Op.bytesLess x.name.toList p.name.toList=false)(e:¬x.name=p.name):mM nA p (o,b) x=(o++ [p]++ [x],true):=by
  have e':¬nA x=nA p:=e;have h2:b=false/\dO (nA x) (nA p)=false:=⟨hb,h⟩;unfold mM;dsimp only;rw [if_neg e',if_pos h2]
theorem Dp(h:Op.bytesLess x.name.toList p.name.toList=true)(e:x.name=p.name):mM nA p (o,b) x=(o,b):=by
  have e':nA x=nA p:=e;have h2:¬(b=false/\dO (nA x) (nA p)=false):=fun q=>by have h3:dO (nA x) (nA p)=true:=h;rw [h3] at q;cases q.2
  unfold mM;dsimp only;rw [if_pos e',if_neg h2]
theorem Ek(h:Op.bytesLess x.name.toList p.name.toList=true)(e:¬x.name=p.name):mM nA p (o,b) x=(o++ [x],b):=by
  have e':¬nA x=nA p:=e;have h2:¬(b=false/\dO (nA x) (nA p)=false):=fun q=>by have h3:dO (nA x) (nA p)=true:=h;rw [h3] at q;cases q.2
  unfold mM;dsimp only;rw [if_neg e',if_neg h2]
theorem El(h:b=true)(e:x.name=p.name):mM nA p (o,b) x=(o,b):=by
  have e':nA x=nA p:=e;have h2:¬(b=false/\dO (nA x) (nA p)=false):=fun q=>by rw [h] at q;cases q.1
  unfold mM;dsimp only;rw [if_pos e',if_neg h2]
theorem Fh(h:b=true)(e:¬x.name=p.name):mM nA p (o,b) x=(o++ [x],b):=by
  have e':¬nA x=nA p:=e;have h2:¬(b=false/\dO (nA x) (nA p)=false):=fun q=>by rw [h] at q;cases q.1
  unfold mM;dsimp only;rw [if_neg e',if_neg h2]
end
@[simp] abbrev q27_5:Cfg:=⟨[4,5,25,34,41,45],[],[],[],[]⟩
theorem Vx (l : List AT) (p : AT) (σ : List (List D)) (hl : l.length <= 99999) (hs : Sorted nA l) : Ct prog 72 [.sl false (l.map cW), cW p] σ (fun r σ' => r = .sl true ((fO nA l p).map cW) /\ σ' = σ) := by
  refine zf func72 ?_;refine zr q27_5 fun _ _ Z=>?_;simp(disch:=omega)[aB,aA];apply Z;refine zr q27_5 fun _ _ Z=>?_;simp(disch:=omega)[aB,aA];and_intros<;>(try omega);apply Z;refine zr q27_5 fun _ _ Z=>?_;simp(disch:=omega)[aB,aA];apply Z;apply aF;refine zr q27_5 fun _ _ Z=>?_;simp(disch:=omega)[aB,aA];and_intros<;>(try omega);apply Z;apply aR;refine zk [3,4,5,6,10,11,12] ?_;refine aY (fun(k:Nat)=> [(12,.d (.v (.int .i64 (k:Int)))),(5,.d (.sl true ((rJ nA (l.take k) p).1.map cW))),(6,.d (.bool (rJ nA (l.take k) p).2))]) [5,6,8,12,13,14,15,16,17,18,19,20,21,22,23,24,25,26,27,28,29,30,31,32,33,34,35,36,37,38] (fun(k:Nat)=>k<=l.length) (fun(k:Nat)=>l.length - k) (0) (by simp <;> rfl) ?_ ?_ ?_
  . simp [rJ]
  . simp
  rintro k hk;simp only [aQ,aP];have hpl:=aDi nA (l.take k) p;simp only [bE] at hpl;generalize hps:rJ nA (l.take k) p=s at hpl |-;obtain⟨o,b⟩:=s;have hpl2:o.length<=k+1:=by simp only at hpl;split at hpl <;> omega
  dsimp only;refine zr q27_5 fun _ _ Z=>?_;simp(disch:=omega)[aB,aA];apply Z;apply aF;refine zI ?_ ?_<;>intro c1<;>try simp at c1
  . apply jY
    refine zr q27_5 fun _ _ Z=>?_;simp(disch:=omega)[aB,aA];and_intros<;>(try omega);apply Z;apply aF;refine lS q27_5 fun all hall _ Z=>?_;have ga2:aN all 2=some 18:=hall 2;refine zs 3 fun _ Y=>?_;simp(disch:=omega)[aB,aA,ga2];apply Y;refine zb 18 ?_ ?_<;>intro g2<;>try simp at g2
    . simp (disch:=omega)[aB,aA,ga2]
      apply Z;refine zI ?_ ?_<;>intro c3<;>try simp at c3
      . refine zk [3,4,5,6,8,10,11,12] ?_
        refine zr q27_5 fun _ _ Z=>?_;simp(disch:=omega)[aB,aA];and_intros<;>(try omega);apply Z;refine zk [3,4,5,6,8,10,11,12] ?_;refine zt q27_5 fun _ _ Z=>?_;simp(disch:=omega)[aB,aA];apply Z;apply fH;refine zr q27_5 fun _ _ Z=>?_;simp(disch:=omega)[aB,aA];apply Z;refine zI ?_ ?_<;>intro c4<;>try simp at c4
        . refine zk [3,4,5,6,8,10,11,12] ?_
          refine zt q27_5 fun _ _ Z=>?_;simp(disch:=omega)[aB,aA];and_intros<;>(try omega);apply Z;apply zB;refine zk [3,4,5,6,10,11,12] ?_;refine zt q27_5 fun _ _ Z=>?_;simp(disch:=omega)[aB,aA];and_intros<;>(try omega);apply Z;refine zq (k+1) ?_ ?_ ?_
          . omega
          . try dsimp only
            omega
          rw [pW nA l p k (by omega),hps];first | rw [Fk (by assumption) (by assumption) (by assumption)] | rw [Fu (by assumption) (by assumption) (by assumption)] | rw [Dp (by assumption) (by assumption)] | rw [Ek (by assumption) (by assumption)] | rw [El (by first | assumption | simpa using g2) (by assumption)] | rw [Fh (by first | assumption | simpa using g2) (by assumption)]
          simp [*]
        apply nI;refine zk [3,4,5,6,10,11,12] ?_;refine zt q27_5 fun _ _ Z=>?_;simp(disch:=omega)[aB,aA];and_intros<;>(try omega);apply Z;refine zq (k+1) ?_ ?_ ?_
        . omega
        . try dsimp only
          omega
        rw [pW nA l p k (by omega),hps];first | rw [Fk (by assumption) (by assumption) (by assumption)] | rw [Fu (by assumption) (by assumption) (by assumption)] | rw [Dp (by assumption) (by assumption)] | rw [Ek (by assumption) (by assumption)] | rw [El (by first | assumption | simpa using g2) (by assumption)] | rw [Fh (by first | assumption | simpa using g2) (by assumption)]
        simp [*]
      apply zA;refine zk [3,4,5,6,8,10,11,12] ?_;refine zr q27_5 fun _ _ Z=>?_;simp(disch:=omega)[aB,aA];apply Z;refine zI ?_ ?_<;>intro c5<;>try simp at c5
      . refine zk [3,4,5,6,8,10,11,12] ?_
        refine zt q27_5 fun _ _ Z=>?_;simp(disch:=omega)[aB,aA];and_intros<;>(try omega);apply Z;apply zB;refine zk [3,4,5,6,10,11,12] ?_;refine zt q27_5 fun _ _ Z=>?_;simp(disch:=omega)[aB,aA];and_intros<;>(try omega);apply Z;refine zq (k+1) ?_ ?_ ?_
        . omega
        . try dsimp only
          omega
        rw [pW nA l p k (by omega),hps];first | rw [Fk (by assumption) (by assumption) (by assumption)] | rw [Fu (by assumption) (by assumption) (by assumption)] | rw [Dp (by assumption) (by assumption)] | rw [Ek (by assumption) (by assumption)] | rw [El (by first | assumption | simpa using g2) (by assumption)] | rw [Fh (by first | assumption | simpa using g2) (by assumption)]
        simp [*]
      apply nI;refine zk [3,4,5,6,10,11,12] ?_;refine zt q27_5 fun _ _ Z=>?_;simp(disch:=omega)[aB,aA];and_intros<;>(try omega);apply Z;refine zq (k+1) ?_ ?_ ?_
      . omega
      . try dsimp only
        omega
      rw [pW nA l p k (by omega),hps];first | rw [Fk (by assumption) (by assumption) (by assumption)] | rw [Fu (by assumption) (by assumption) (by assumption)] | rw [Dp (by assumption) (by assumption)] | rw [Ek (by assumption) (by assumption)] | rw [El (by first | assumption | simpa using g2) (by assumption)] | rw [Fh (by first | assumption | simpa using g2) (by assumption)]
      simp [*]
    simp(disch:=omega)[aB,aA,ga2];apply Z;refine aX (t:=false) (by simp) (fun h=>by cases h) (fun _=>?_);apply zA;refine zk [3,4,5,6,8,10,11,12] ?_;refine zr q27_5 fun _ _ Z=>?_;simp(disch:=omega)[aB,aA];apply Z;refine zI ?_ ?_<;>intro c6<;>try simp at c6
    . refine zk [3,4,5,6,8,10,11,12] ?_
      refine zt q27_5 fun _ _ Z=>?_;simp(disch:=omega)[aB,aA];and_intros<;>(try omega);apply Z;apply zB;refine zk [3,4,5,6,10,11,12] ?_;refine zt q27_5 fun _ _ Z=>?_;simp(disch:=omega)[aB,aA];and_intros<;>(try omega);apply Z;refine zq (k+1) ?_ ?_ ?_
      . omega
      . try dsimp only
        omega
      rw [pW nA l p k (by omega),hps];first | rw [Fk (by assumption) (by assumption) (by assumption)] | rw [Fu (by assumption) (by assumption) (by assumption)] | rw [Dp (by assumption) (by assumption)] | rw [Ek (by assumption) (by assumption)] | rw [El (by first | assumption | simpa using g2) (by assumption)] | rw [Fh (by first | assumption | simpa using g2) (by assumption)]
      simp [*]
    apply nI;refine zk [3,4,5,6,10,11,12] ?_;refine zt q27_5 fun _ _ Z=>?_;simp(disch:=omega)[aB,aA];and_intros<;>(try omega);apply Z;refine zq (k+1) ?_ ?_ ?_
    . omega
    . try dsimp only
      omega
    rw [pW nA l p k (by omega),hps];first | rw [Fk (by assumption) (by assumption) (by assumption)] | rw [Fu (by assumption) (by assumption) (by assumption)] | rw [Dp (by assumption) (by assumption)] | rw [Ek (by assumption) (by assumption)] | rw [El (by first | assumption | simpa using g2) (by assumption)] | rw [Fh (by first | assumption | simpa using g2) (by assumption)]
    simp [*]
  obtain rfl:k=l.length:=by omega
  rw [dS] at hps;apply zE;apply aF;refine zr q27_5 fun _ _ Z=>?_;simp(disch:=omega)[aB,aA];apply Z;refine zI ?_ ?_<;>intro c7<;>try simp at c7
  . refine zt q27_5 fun _ _ Z=>?_
    simp(disch:=omega)[aB,aA];and_intros<;>(try omega);apply Z;apply fH;refine zk [4,5] ?_;refine zr q27_5 fun _ _ Z=>?_;simp(disch:=omega)[aB,aA];apply Z;apply aC;simp [aI];rw [<- Ns nA hs p,hps];simp [aGe, *]
  apply zA;refine zr q27_5 fun _ _ Z=>?_;simp(disch:=omega)[aB,aA];apply Z;apply aC;simp [aI];rw [<- Ns nA hs p,hps];simp [aGe, *]
def Sx(l:List PI)(k j:Nat):Option PI:=Mj nP (l.take j) ((hU nP l).take k)
def wM(l:List PI)(k j:Nat):PI:=(Sx l k j).getD ⟨⟨#[]⟩,0⟩
def ahd(l:List PI)(k:Nat)(c:ByteArray):Bool:=rF nP ((hU nP l).take k) c
theorem aWe(l:List PI)(k:Nat)(c:ByteArray)(h:k<(hU nP l).length):ahd l (k+1) c=dO (hU nP l)[k].name c:=by
  unfold ahd rF;rw [bN (hU nP l) k h,List.getLast?_concat]
theorem Ci(l:List PI)(k j:Nat)(h:j<l.length):Sx l k (j+1)=if ahd l k l[j].name=true then(match Sx l k j with | none=>some l[j] | some q=>if dO (nP q) (nP l[j])=true then some q else some l[j])else Sx l k j:=by
  have e:=aE8 nP l ((hU nP l).take k) j h;unfold Sx ahd;rw [e];cases Mj nP (l.take j) ((hU nP l).take k) <;> rfl
theorem tF (g:¬k=0)(hk:k<=(hU nP l).length)(c:ByteArray):ahd l k c=dO ((hU nP l)[k - 1]'(by omega)).name c:=by
  obtain⟨m,rfl⟩:∃m,k=m+1:=⟨k - 1,by omega⟩;exact aWe l m c (by omega)
theorem fQ(l:List PI)(k:Nat):(∀d:D,d∈List.take k (List.map cQ l)->d.ncells=2)↔True:=by
  refine⟨fun _=>trivial,fun _ d hd=>?_⟩;obtain⟨a,_,rfl⟩:=aU.1 (mD hd);rfl
theorem vL (h:j<l.length)(ha:ahd l k l[j].name=true)(hc:(Sx l k j).isSome=false\/dO (wM l k j).name l[j].name=false):Sx l k (j+1)=some l[j]:=by
  rw [Ci l k j h,aM ha];unfold wM at hc;cases hq:Sx l k j with
  | none=>rfl
  | some q =>
    rw [hq] at hc;have:dO (nP q) (nP l[j])=false:=by simpa using hc
    simp [this]
theorem uY (h:j<l.length)(ha:ahd l k l[j].name=false):Sx l k (j+1)=Sx l k j:=by
  rw [Ci l k j h,aD (by rw [ha];simp)]
theorem vI (h:j<l.length)(h1:(Sx l k j).isSome=true)(h2:dO (wM l k j).name l[j].name=true):Sx l k (j+1)=Sx l k j:=by
  by_cases ha:ahd l k l[j].name=true
  . rw [Ci l k j h, aM ha]
    unfold wM at h2;cases hq:Sx l k j with
    | none=>rw [hq] at h1;cases h1
    | some q =>
      rw [hq] at h2;have:dO (nP q) (nP l[j])=true:=h2;simp [this]
  rw [Ci l k j h,aD ha]
theorem aP4 (hk:k<=(hU nP l).length):Sx l k l.length=(hU nP l)[k]?:=by
  unfold Sx;rw [dS];exact aJo nP l k hk
theorem aQy(l:List PI)(k:Nat):Sx l k 0=none:=aTe nP l _
@[simp] abbrev q27_6:Cfg:=⟨[2,3,48,49],[],[],[],[]⟩
theorem Ri (l : List PI) (σ : List (List D)) (hl : l.length <= 99999) : Ct prog 73 [.sl false (l.map cQ)] σ (fun r σ' => r = .sl true ((hU nP l).map cQ) /\ σ' = σ) := by
  refine zf func73 ?_;refine zr q27_6 fun _ _ Z=>?_;simp(disch:=omega)[aB,aA,fQ];apply Z;refine zr q27_6 fun _ _ Z=>?_;simp(disch:=omega)[aB,aA,fQ];and_intros<;>(try omega);apply Z;apply aR;refine zk [0,2,3] ?_;refine aY (fun(k:Nat)=> [(3,.d (.sl true (((hU nP l).take k).map cQ)))]) [2,3,4,5,7,8,10,11,12,13,14,15,16,17,18,19,20,21,22,23,24,25,26,27,28,29,30,31,32,33,34,35,36,37,38,39,40,41,42,43,44,45,46,47,48,49,50,51,52] (fun(k:Nat)=>k<=(hU nP l).length) (fun(k:Nat)=>(hU nP l).length - k) (0) (by simp <;> rfl) ?_ ?_ ?_
  . simp
  . simp
  rintro k hk;simp only [aQ,aP];have hol:=iD nP l;have hlk:((hU nP l).take k).length=k:=by simp;omega
  apply aR;refine zr q27_6 fun _ _ Z=>?_;simp(disch:=omega)[aB,aA,fQ];apply Z;refine zr q27_6 fun _ _ Z=>?_;simp(disch:=omega)[aB,aA,fQ];apply Z;apply aF;refine zr q27_6 fun _ _ Z=>?_;simp(disch:=omega)[aB,aA,fQ];and_intros<;>(try omega);apply Z;apply aR;refine zk [0,3,4,5,11,12,13] ?_;refine kE (fun(j:Nat)=> [(13,.d (.v (.int .i64 (j:Int)))),(4,.d (.bool (Sx l k j).isSome)),(8,.d (.any))]) (fun(j:Nat)=> [(0, [.v (.string ((wM l k j).name)),.v (.int .i64 ((wM l k j).value))])]) (fun(j:Nat)=> []) [4,7,8,13,14,15,16,17,18,19,20,21,22,23,24,25,26,27,28,29,30,31,32,33,34,35,36,37,38,39,40,41,42,43,44,45] (fun(j:Nat)=>j<=l.length) (fun(j:Nat)=>l.length - j) (0) (by simp <;> rfl) ?_ (by simp [wM,aQy]) (by simp) ?_ ?_
  . simp [aQy,wM]
  . simp
  rintro j hj;simp only [aQ,aP,lJ,jS,gE,fV];refine zr q27_6 fun _ _ Z=>?_;simp(disch:=omega)[aB,aA,fQ];apply Z;apply aF;refine zI ?_ ?_<;>intro c1<;>try simp at c1
  . apply jY
    refine zr q27_6 fun _ _ Z=>?_;simp(disch:=omega)[aB,aA,fQ];and_intros<;>(try omega);apply Z;refine zk [0,3,4,5,7,8,11,12,13] ?_;refine zd q27_6 [.op {},.op {},.op {},.op {},.op {},.op {rL:=true},.op {},.op {},.op {},.op {},.op {},.op {},.op {},.op {},.op {},.op {}] fun all hall _ Z=>?_;have ga3:aN all 3=some 20:=hall 3;refine lM 4 fun _ Y=>?_;simp(disch:=omega)[aB,aA,fQ,ga3];and_intros<;>(try omega);apply Y;refine zbD 20 ?_ ?_<;>intro g2<;>try simp at g2
    . refine lM 8 fun _ Y=>?_
      simp(disch:=omega)[aB,aA,fQ,ga3];and_intros<;>(try omega);apply Y;simp(disch:=omega)[aB,aA,fQ,ga3];apply Z;refine zk [0,3,4,5,7,8,11,12,13] ?_;refine lS q27_6 fun all hall _ Z=>?_;have ga1:aN all 1=some 33:=hall 1;have ga4:aN all 4=some 36:=hall 4;refine zs 2 fun _ Y=>?_;simp(disch:=omega)[aB,aA,fQ,ga1,ga4];apply Y;refine zs 3 fun _ Y=>?_;simp(disch:=omega)[aB,aA,fQ,ga1,ga4];apply Y;refine zb 36 ?_ ?_<;>intro g3<;>try simp at g3
      . simp (disch:=omega)[aB,aA,fQ,ga1,ga4]
        apply Z;refine aX (t:=true) (by simp) (fun _=>?_) (fun h=>by cases h);refine zk [0,3,4,5,7,8,11,12,13] ?_;refine zr q27_6 fun _ _ Z=>?_;simp(disch:=omega)[aB,aA,fQ];apply Z;refine zt q27_6 fun _ _ Z=>?_;simp(disch:=omega)[aB,aA,fQ];apply Z;apply zB;refine zt q27_6 fun _ _ Z=>?_;simp(disch:=omega)[aB,aA,fQ];and_intros<;>(try omega);apply Z;first | have hcn:=vL (k:=k) c1 (by first | (rw [show k=0 from g2];rfl) | (rw [tF g2 hk];exact g5)) (by first | exact .inl (by rw [g3];rfl) | exact .inl (by rw [g6];rfl) | exact .inr c4 | exact .inr c7) | have hcn:=vI (k:=k) c1 (by first | exact g3 | exact g6) (by first | exact c4 | exact c7) | have hcn:=uY (k:=k) c1 (by rw [tF g2 hk];exact g5)
        refine fC (j+1) ?_ ?_ (dU rfl ?_ (by simp [wM,hcn]) (by simp))
        . omega
        . try dsimp only
          omega
        simp(disch:=omega)[aB,aA,fQ,hcn]
      simp(disch:=omega)[aB,aA,fQ,ga1,ga4];apply Z;refine zI ?_ ?_<;>intro c4<;>try simp at c4
      . refine zk [0,3,4,5,7,8,11,12,13] ?_
        refine zr q27_6 fun _ _ Z=>?_;simp(disch:=omega)[aB,aA,fQ];apply Z;refine zt q27_6 fun _ _ Z=>?_;simp(disch:=omega)[aB,aA,fQ];apply Z;apply zB;refine zt q27_6 fun _ _ Z=>?_;simp(disch:=omega)[aB,aA,fQ];and_intros<;>(try omega);apply Z;first | have hcn:=vL (k:=k) c1 (by first | (rw [show k=0 from g2];rfl) | (rw [tF g2 hk];exact g5)) (by first | exact .inl (by rw [g3];rfl) | exact .inl (by rw [g6];rfl) | exact .inr c4 | exact .inr c7) | have hcn:=vI (k:=k) c1 (by first | exact g3 | exact g6) (by first | exact c4 | exact c7) | have hcn:=uY (k:=k) c1 (by rw [tF g2 hk];exact g5)
        refine fC (j+1) ?_ ?_ (dU rfl ?_ (by simp [wM,hcn]) (by simp))
        . omega
        . try dsimp only
          omega
        simp(disch:=omega)[aB,aA,fQ,hcn]
      apply nI;refine zk [0,3,4,5,8,11,12,13] ?_;refine zt q27_6 fun _ _ Z=>?_;simp(disch:=omega)[aB,aA,fQ];and_intros<;>(try omega);apply Z;first | have hcn:=vL (k:=k) c1 (by first | (rw [show k=0 from g2];rfl) | (rw [tF g2 hk];exact g5)) (by first | exact .inl (by rw [g3];rfl) | exact .inl (by rw [g6];rfl) | exact .inr c4 | exact .inr c7) | have hcn:=vI (k:=k) c1 (by first | exact g3 | exact g6) (by first | exact c4 | exact c7) | have hcn:=uY (k:=k) c1 (by rw [tF g2 hk];exact g5)
      refine fC (j+1) ?_ ?_ (dU rfl ?_ (by simp [wM,hcn]) (by simp))
      . omega
      . try dsimp only
        omega
      simp(disch:=omega)[aB,aA,fQ,hcn]
    refine lM 8 fun _ Y=>?_;simp(disch:=omega)[aB,aA,fQ,ga3];and_intros<;>(try omega);apply Y;simp(disch:=omega)[aB,aA,fQ,ga3];apply Z;refine zk [0,3,4,5,7,8,11,12,13] ?_;refine lS q27_6 fun all hall _ Z=>?_;have ga1:aN all 1=some 33:=hall 1;have ga4:aN all 4=some 36:=hall 4;refine zs 2 fun _ Y=>?_;simp(disch:=omega)[aB,aA,fQ,ga1,ga4];apply Y;refine zb 33 ?_ ?_<;>intro g5<;>try simp at g5
    . refine zs 3 fun _ Y=>?_
      simp(disch:=omega)[aB,aA,fQ,ga1,ga4];apply Y;refine zb 36 ?_ ?_<;>intro g6<;>try simp at g6
      . simp (disch:=omega)[aB,aA,fQ,ga1,ga4]
        apply Z;refine aX (t:=true) (by simp) (fun _=>?_) (fun h=>by cases h);refine zk [0,3,4,5,7,8,11,12,13] ?_;refine zr q27_6 fun _ _ Z=>?_;simp(disch:=omega)[aB,aA,fQ];apply Z;refine zt q27_6 fun _ _ Z=>?_;simp(disch:=omega)[aB,aA,fQ];apply Z;apply zB;refine zt q27_6 fun _ _ Z=>?_;simp(disch:=omega)[aB,aA,fQ];and_intros<;>(try omega);apply Z;first | have hcn:=vL (k:=k) c1 (by first | (rw [show k=0 from g2];rfl) | (rw [tF g2 hk];exact g5)) (by first | exact .inl (by rw [g3];rfl) | exact .inl (by rw [g6];rfl) | exact .inr c4 | exact .inr c7) | have hcn:=vI (k:=k) c1 (by first | exact g3 | exact g6) (by first | exact c4 | exact c7) | have hcn:=uY (k:=k) c1 (by rw [tF g2 hk];exact g5)
        refine fC (j+1) ?_ ?_ (dU rfl ?_ (by simp [wM,hcn]) (by simp))
        . omega
        . try dsimp only
          omega
        simp(disch:=omega)[aB,aA,fQ,hcn]
      simp(disch:=omega)[aB,aA,fQ,ga1,ga4];apply Z;refine zI ?_ ?_<;>intro c7<;>try simp at c7
      . refine zk [0,3,4,5,7,8,11,12,13] ?_
        refine zr q27_6 fun _ _ Z=>?_;simp(disch:=omega)[aB,aA,fQ];apply Z;refine zt q27_6 fun _ _ Z=>?_;simp(disch:=omega)[aB,aA,fQ];apply Z;apply zB;refine zt q27_6 fun _ _ Z=>?_;simp(disch:=omega)[aB,aA,fQ];and_intros<;>(try omega);apply Z;first | have hcn:=vL (k:=k) c1 (by first | (rw [show k=0 from g2];rfl) | (rw [tF g2 hk];exact g5)) (by first | exact .inl (by rw [g3];rfl) | exact .inl (by rw [g6];rfl) | exact .inr c4 | exact .inr c7) | have hcn:=vI (k:=k) c1 (by first | exact g3 | exact g6) (by first | exact c4 | exact c7) | have hcn:=uY (k:=k) c1 (by rw [tF g2 hk];exact g5)
        refine fC (j+1) ?_ ?_ (dU rfl ?_ (by simp [wM,hcn]) (by simp))
        . omega
        . try dsimp only
          omega
        simp(disch:=omega)[aB,aA,fQ,hcn]
      apply nI;refine zk [0,3,4,5,8,11,12,13] ?_;refine zt q27_6 fun _ _ Z=>?_;simp(disch:=omega)[aB,aA,fQ];and_intros<;>(try omega);apply Z;first | have hcn:=vL (k:=k) c1 (by first | (rw [show k=0 from g2];rfl) | (rw [tF g2 hk];exact g5)) (by first | exact .inl (by rw [g3];rfl) | exact .inl (by rw [g6];rfl) | exact .inr c4 | exact .inr c7) | have hcn:=vI (k:=k) c1 (by first | exact g3 | exact g6) (by first | exact c4 | exact c7) | have hcn:=uY (k:=k) c1 (by rw [tF g2 hk];exact g5)
      refine fC (j+1) ?_ ?_ (dU rfl ?_ (by simp [wM,hcn]) (by simp))
      . omega
      . try dsimp only
        omega
      simp(disch:=omega)[aB,aA,fQ,hcn]
    refine zs 8 fun _ Y=>?_;simp(disch:=omega)[aB,aA,fQ,ga1,ga4];and_intros<;>(try omega);apply Y;simp(disch:=omega)[aB,aA,fQ,ga1,ga4];apply Z;refine aX (t:=false) (by simp) (fun h=>by cases h) (fun _=>?_);apply nI;refine zk [0,3,4,5,8,11,12,13] ?_;refine zt q27_6 fun _ _ Z=>?_;simp(disch:=omega)[aB,aA,fQ];and_intros<;>(try omega);apply Z;first | have hcn:=vL (k:=k) c1 (by first | (rw [show k=0 from g2];rfl) | (rw [tF g2 hk];exact g5)) (by first | exact .inl (by rw [g3];rfl) | exact .inl (by rw [g6];rfl) | exact .inr c4 | exact .inr c7) | have hcn:=vI (k:=k) c1 (by first | exact g3 | exact g6) (by first | exact c4 | exact c7) | have hcn:=uY (k:=k) c1 (by rw [tF g2 hk];exact g5)
    refine fC (j+1) ?_ ?_ (dU rfl ?_ (by simp [wM,hcn]) (by simp))
    . omega
    . try dsimp only
      omega
    simp(disch:=omega)[aB,aA,fQ,hcn]
  obtain rfl:j=l.length:=by omega
  have hce:=aP4 hk;apply zE;apply aF;refine zr q27_6 fun _ _ Z=>?_;simp(disch:=omega)[aB,aA,fQ];apply Z;refine zI ?_ ?_<;>intro c8<;>try simp at c8
  . refine zr q27_6 fun _ _ Z=>?_
    simp(disch:=omega)[aB,aA,fQ];apply Z;apply aC;simp [aI];rw [hce] at c8;rw [bX (by simpa using List.getElem?_eq_none_iff.1 c8)]
  have hk2:k<(hU nP l).length:=by
      rcases tT k (hU nP l).length with h | h
      . exact h
      rw [hce,jP h] at c8;exact absurd c8 (by simp)
  have hcd:wM l k l.length=(hU nP l)[k]:=by unfold wM;rw [hce,aW hk2];rfl
  have htk:List.take (k+1) (List.map cQ (hU nP l))=List.take k (List.map cQ (hU nP l))++ [cQ (hU nP l)[k]]:=by rw [bN _ k (by simpa using hk2),kF]
  apply zA;refine zt q27_6 fun _ _ Z=>?_;simp(disch:=omega)[aB,aA,fQ];and_intros<;>(try omega);apply Z;apply kY;refine zq (k+1) ?_ ?_ ?_
  . omega
  . try dsimp only
    omega
  simp(disch:=omega)[aB,aA,fQ,hcd,htk]
@[simp] abbrev q27_7:Cfg:=⟨[4,5,20,25],[],[],[],[]⟩
theorem aC4 (l : List PI) (c : ByteArray) (σ : List (List D)) (hl : l.length <= 99999) (hs : Sorted nP l) : Ct prog 76 [.sl false (l.map cQ), D.str c] σ (fun r σ' => r = .sl true ((lA nP l c).map cQ) /\ σ' = σ) := by
  refine zf func76 ?_;refine zr q27_7 fun _ _ Z=>?_;simp(disch:=omega);apply Z;refine zr q27_7 fun _ _ Z=>?_;simp(disch:=omega);and_intros<;>(try omega);apply Z;apply aF;refine zr q27_7 fun _ _ Z=>?_;refine zs 1 fun _ Y=>?_;simp(disch:=omega);apply Y;refine aE fun _ Y=>?_;simp(disch:=omega);refine cH (Ri l _ hl) ?_;rw [rG nP hs];apply Y;simp(disch:=omega);and_intros<;>(try omega);apply Z;apply aR;refine zk [1,4,5,10,11,12] ?_;refine aY (fun(k:Nat)=> [(12,.d (.v (.int .i64 (k:Int)))),(5,.d (.sl true ((lA nP (l.take k) c).map cQ)))]) [5,7,12,13,14,15,16,17,18,19,20,21,22,23,24] (fun(k:Nat)=>k<=l.length) (fun(k:Nat)=>l.length - k) (0) (by simp <;> rfl) ?_ ?_ ?_
  . simp [lA]
  . simp
  rintro k hk;simp only [aQ,aP];have hdl:=Cy nP (l.take k) c;simp only [bE] at hdl;refine zr q27_7 fun _ _ Z=>?_;simp(disch:=omega);apply Z;apply aF;refine zI ?_ ?_<;>intro c1<;>try simp at c1
  . apply jY
    refine zr q27_7 fun _ _ Z=>?_;simp(disch:=omega);and_intros<;>(try omega);apply Z;refine zr q27_7 fun _ _ Z=>?_;simp(disch:=omega);apply Z;refine zI ?_ ?_<;>intro c2<;>try simp at c2
    . refine zk [1,4,5,7,10,11,12] ?_
      refine zt q27_7 fun _ _ Z=>?_;simp(disch:=omega);and_intros<;>(try omega);apply Z;apply zB;refine zk [1,4,5,10,11,12] ?_;refine zt q27_7 fun _ _ Z=>?_;simp(disch:=omega);and_intros<;>(try omega);apply Z;refine zq (k+1) ?_ ?_ ?_
      . omega
      . try dsimp only
        omega
      simp(disch:=omega)[yO, *]
    apply nI;refine zk [1,4,5,10,11,12] ?_;refine zt q27_7 fun _ _ Z=>?_;simp(disch:=omega);and_intros<;>(try omega);apply Z;refine zq (k+1) ?_ ?_ ?_
    . omega
    . try dsimp only
      omega
    simp(disch:=omega)[yO, *]
  apply zE;refine zr q27_7 fun _ _ Z=>?_;simp(disch:=omega);apply Z;apply aC;simp [aI];rw [bX (by omega)]
theorem Wk :lQ nP l c=true↔∃j,∃h:j<l.length,l[j].name=c:=by
  unfold lQ;rw [oU];constructor
  . rintro ⟨x, hx, e⟩
    obtain⟨j,hj,rfl⟩:=mB hx;exact⟨j,hj,by simpa using e⟩
  rintro⟨j,hj,e⟩;exact⟨l[j],cB hj,by simpa using e⟩
theorem Yq (hh:∀j (h:j<l.length),k<=j->l[j].name≠c) {hk:k - 1<l.length} (c2:¬l[k - 1].name=c)(h:j<l.length)(h2:k - 1<=j):l[j].name≠c:=by
  rcases tT j k with h3 | h3
  . obtain rfl : j = k - 1 := by omega
    exact c2
  exact hh j h h3
theorem aSk (h:∀j (h:j<l.length),0<=j->l[j].name≠c):lQ nP l c=false:=by
  rw [<- yG,Wk];rintro⟨j,hj,e⟩;exact h j hj (iK _) e
theorem aIz(l:List PI)(c:ByteArray)(σ:List (List D))(hl:l.length<=99999):Ct prog 75 [.sl false (l.map cQ),D.str c] σ (fun r σ'=>(∃v:Int,r= .tup [D.int v,.bool (lQ nP l c)])/\σ'=σ):=by
  refine zf func75 ?_;refine aZ fun _ _ Z=>?_;simp(disch:=omega)[qB];apply Z;apply aF;refine aZ fun _ _ Z=>?_;simp(disch:=omega)[qB];and_intros<;>(try omega);apply Z;apply aR;refine zk [0,1,4,5,6] ?_;refine aY (fun(k:Nat)=> [(6,.d (.int ((k:Int) - 1)))]) [4,5,6,10,11,12,13,14,15,16,17,18,19,20,21,22,23,24,25] (fun(k:Nat)=>k<=l.length/\∀j (h:j<l.length),k<=j->l[j].name≠c) (fun(k:Nat)=>k) (l.length) (by simp <;> rfl) ?_ ?_ ?_
  . simp
  . exact⟨bC _,fun j h h2=>by omega⟩
  rintro k ⟨hk,hh⟩;simp only [aQ,aP];have htn:1<=k->((k:Int) - 1).toNat=k - 1:=fun h=>by omega
  apply aF;refine aZ fun _ _ Z=>?_;simp(disch:=omega)[qB];apply Z;refine zI ?_ ?_<;>intro c1<;>try simp at c1
  . have hk1 : 1 <= k := by omega
    have htn1:=htn hk1;apply jY;refine aZ fun _ _ Z=>?_;simp(disch:=omega)[qB];and_intros<;>(try omega);apply Z;refine zI ?_ ?_<;>intro c2<;>try simp at c2
    . refine zk [0,1,6] ?_
      refine aZ fun _ _ Z=>?_;simp(disch:=omega)[qB];and_intros<;>(try omega);apply Z;apply aC;simp [aI];exact Wk.2 ⟨k - 1,by omega,c2⟩
    apply nI;refine zk [0,1,6] ?_;refine pB fun _ _ Z=>?_;simp(disch:=omega)[qB];and_intros<;>(try omega);apply Z;refine zq (k - 1) ?_ ?_ ?_
    . exact⟨by omega,fun j h h2=>Yq hh c2 h h2⟩
    . try dsimp only
      omega
    simp [Sv];omega
  apply zE;refine aZ fun _ _ Z=>?_;simp(disch:=omega)[qB];apply Z;apply aC;simp [aI];exact aSk fun j h _=>hh j h (by omega)
theorem Pz(l:List Int)(k:Nat):(∀d:D,d∈List.take k (List.map D.int l)->d.ncells=1)↔True:=by
  refine⟨fun _=>trivial,fun _ d hd=>?_⟩;obtain⟨a,_,rfl⟩:=aU.1 (mD hd);rfl
theorem Rt(l:List Int)(k:Nat):(∀d:D,d∈List.drop k (List.map D.int l)->d.ncells=1)↔True:=by
  refine⟨fun _=>trivial,fun _ d hd=>?_⟩;obtain⟨a,_,rfl⟩:=aU.1 (xQ hd);rfl
theorem aMs(l:List Int)(x:Int):(l.filter fun y=> !decide (y=x)).length<=l.length:=jD _ _
def kS(l:List Int)(x:Int):List Int:=l.filter fun y=> !decide (y=x)
theorem Pv(l:List Int)(x:Int)(k:Nat)(h:k<l.length):kS (l.take (k+1)) x=kS (l.take k) x++if l[k]=x then [] else [l[k]]:=by
  unfold kS;rw [bN l k h,fU,gN];by_cases e:l[k]=x <;> simp [e]
@[simp] abbrev q27_8:Cfg:=⟨[6,7,13,17],[],[],[],[]⟩
theorem aAz(l:List Int)(i:Nat)(x:Int)(σ:List (List D))(hl:l.length<=99999)(hi:i<=l.length):Ct prog 206 [.sl false (l.map D.int),D.int i,D.int x] σ (fun r σ'=>r= .sl true ((fM l i x).map D.int)/\σ'=σ):=by
  refine zf func206 ?_;have htl:List.take l.length (List.map D.int l)=List.map D.int l:=bX (by simp);refine zr q27_8 fun _ _ Z=>?_;simp[Pz,Rt,aB,aA,htl];apply Z;refine zr q27_8 fun _ _ Z=>?_;simp[Pz,Rt,aB,aA,htl];and_intros<;>(try omega);apply Z;refine zr q27_8 fun _ _ Z=>?_;simp[Pz,Rt,aB,aA,htl];and_intros<;>(try omega);apply Z;refine zk [0,1,6,7] ?_;refine zr q27_8 fun _ _ Z=>?_;simp[Pz,Rt,aB,aA,htl];and_intros<;>(try omega);apply Z;apply aC;simp [aI,fM]
@[simp] abbrev q27_9:Cfg:=⟨[4,5,18,23],[],[],[],[]⟩
theorem Gu (l : List Int) (x : Int) (σ : List (List D)) (hl : l.length <= 99999) : Ct prog 208 [.sl false (l.map D.int), D.int x] σ (fun r σ' => r = .sl true ((kS l x).map D.int) /\ σ' = σ) := by
  refine zf func208 ?_;refine zr q27_9 fun _ _ Z=>?_;simp(disch:=omega);apply Z;refine zr q27_9 fun _ _ Z=>?_;simp(disch:=omega);and_intros<;>(try omega);apply Z;apply aF;refine zr q27_9 fun _ _ Z=>?_;simp(disch:=omega);and_intros<;>(try omega);apply Z;apply aR;refine zk [1,4,5,9,10,11] ?_;refine aY (fun(k:Nat)=> [(11,.d (.v (.int .i64 (k:Int)))),(5,.d (.sl true ((kS (l.take k) x).map D.int)))]) [5,7,11,12,13,14,15,16,17,18,19,20,21,22] (fun(k:Nat)=>k<=l.length) (fun(k:Nat)=>l.length - k) (0) (by simp <;> rfl) ?_ ?_ ?_
  . simp [kS]
  . simp
  rintro k hk;simp only [aQ,aP];have hdl:=aMs (l.take k) x;simp only [bE] at hdl;have hdl2:(kS (l.take k) x).length<=k:=by unfold kS;omega
  refine zr q27_9 fun _ _ Z=>?_;simp(disch:=omega);apply Z;apply aF;refine zI ?_ ?_<;>intro c1<;>try simp at c1
  . apply jY
    refine zr q27_9 fun _ _ Z=>?_;simp(disch:=omega);and_intros<;>(try omega);apply Z;refine zr q27_9 fun _ _ Z=>?_;simp(disch:=omega);apply Z;refine zI ?_ ?_<;>intro c2<;>try simp at c2
    . refine zk [1,4,5,7,9,10,11] ?_
      refine zt q27_9 fun _ _ Z=>?_;simp(disch:=omega);and_intros<;>(try omega);apply Z;apply zB;refine zk [1,4,5,9,10,11] ?_;refine zt q27_9 fun _ _ Z=>?_;simp(disch:=omega);and_intros<;>(try omega);apply Z;refine zq (k+1) ?_ ?_ ?_
      . omega
      . try dsimp only
        omega
      simp(disch:=omega)[Pv, *]
    apply nI;refine zk [1,4,5,9,10,11] ?_;refine zt q27_9 fun _ _ Z=>?_;simp(disch:=omega);and_intros<;>(try omega);apply Z;refine zq (k+1) ?_ ?_ ?_
    . omega
    . try dsimp only
      omega
    simp(disch:=omega)[Pv, *]
  apply zE;refine zr q27_9 fun _ _ Z=>?_;simp(disch:=omega);apply Z;apply aC;simp [aI];rw [bX (by omega)]
end Go.Proofs.YtbgfljpnhhdkoaaGreat
