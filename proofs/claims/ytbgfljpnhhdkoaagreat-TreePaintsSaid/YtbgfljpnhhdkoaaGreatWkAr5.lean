import Derived.Test.YtbgfljpnhhdkoaaGreatWkAr4
set_option linter.all false
set_option maxRecDepth 20000
set_option maxHeartbeats 8000000
open Go.Proofs.Tryz
namespace Go.Proofs.YtbgfljpnhhdkoaaGreat
open Go Go.Vm
variable {a b c:ByteArray}
def cT(a b:ByteArray):Bool:=Op.bytesLess a.toList b.toList
theorem Pr:∀a:List UInt8,Op.bytesLess a a=false
  | []=>rfl
  | a::x=>by simp [Op.bytesLess,Pr x]
theorem aV2 {a b:UInt8} :a<b↔a.toNat<b.toNat:=Iff.rfl
theorem Ve:∀a b c:List UInt8,Op.bytesLess a b=true->Op.bytesLess b c=true->Op.bytesLess a c=true
  | [], [],_,h,_=>by simp [Op.bytesLess] at h
  | _::_, [],_,h,_=>by simp [Op.bytesLess] at h
  | [],_::_, [],_,h=>by simp [Op.bytesLess] at h
  | _::_,_::_, [],_,h=>by simp [Op.bytesLess] at h
  | [],_::_,_::_,_,_=>by simp [Op.bytesLess]
  | a :: x, b :: y, c :: z, h1, h2 => by
    simp only [Op.bytesLess,vG,gH,fF,Ag,aV2] at *;rcases h1 with h1 | ⟨rfl,h1⟩
    . rcases h2 with h2 | ⟨rfl, h2⟩
      . left;omega
      left;exact h1
    rcases h2 with h2 | ⟨rfl,h2⟩
    . left;exact h2
    right;exact⟨rfl,Ve x y z h1 h2⟩
theorem lX(a:ByteArray):cT a a=false:=Pr _
theorem tN (h1:cT a b=true)(h2:cT b c=true):cT a c=true:=Ve _ _ _ h1 h2
theorem Uq(a b:ByteArray):cT a b=true\/a=b\/cT b a=true:=by
  have h:=zG a.toList b.toList;unfold cT;cases h1:Op.bytesLess a.toList b.toList with
  | true=>left;rfl
  | false =>
    rw [h1,zR,rB] at h;cases h2:Op.bytesLess b.toList a.toList with
    | true=>right;right;rfl
    | false=>rw [h2] at h;right;left;simpa using h
theorem Ji (h:cT a b=true):cT b a=false:=by
  cases h2:cT b a with
  | false=>rfl
  | true=>have:=tN h h2;rw [lX] at this;cases this
theorem rA (h:cT a b=true):a≠b:=by rintro rfl;rw [lX] at h;cases h
theorem Ur (h:cT a b=false)(hn:a≠b):cT b a=true:=by
  rcases Uq a b with h1 | h1 | h1
  . rw [h1] at h;cases h
  . exact absurd h1 hn
  exact h1
def Jm(a b:ByteArray):Int:=if cT a b=true then -1 else if cT b a=true then 1 else 0
theorem Lk(a b:ByteArray):Jm a b<0↔cT a b=true:=by
  unfold Jm;repeat' split
  all_goals simp_all
theorem aBk(a b:ByteArray):0<=Jm a b↔cT a b=false:=by
  have:=Lk a b;rw [<- vE,<- this];omega
theorem Nn(a b:ByteArray):Jm a b=0↔a=b:=by
  unfold Jm
  repeat' split
  . rename_i h;simp;exact rA h
  . rename_i h;simp;exact fun e=>rA h e.symm
  rename_i h1 h2;simp only [true_iff];rcases Uq a b with h | h | h
  . exact absurd h h1
  . exact h
  exact absurd h h2
section
variable {α:Type} (nm:α->ByteArray)
def lF:List α->ByteArray->Nat
  | [],_=>0
  | q::l,c=>if cT (nm q) c=true then lF l c+1 else 0
def Jt:List α->ByteArray->Bool
  | [],_=>false
  | q::l,c=>if cT (nm q) c=true then Jt l c else decide (nm q=c)
def eO:List α->α->List α
  | [],p=> [p]
  | q::l,p=>if cT (nm q) (nm p)=true then q::eO l p else if nm q=nm p then p::l else p::q::l
def Sorted(l:List α):Prop:=l.Pairwise fun a b=>cT (nm a) (nm b)=true
def iB(l:List α):List α:=l.foldl (eO nm) []
def mG(l:List α)(c:ByteArray):Bool:=l.any fun p=>decide (nm p=c)
def lP(l:List α)(c:ByteArray):List α:=l.filter fun p=> !decide (nm p=c)
theorem Sl(l:List α)(c:ByteArray):lF nm l c<=l.length:=by
  induction l with
  | nil=>exact aY _
  | cons q l ih=>unfold lF;split <;> simp <;> omega
theorem Rm:∀(l:List α) (c:ByteArray) (i:Nat),i<=l.length->(∀j (h:j<l.length),j<i->cT (nm l[j]) c=true)->(∀h:i<l.length,cT (nm l[i]) c=false)->lF nm l c=i
  | [],c,i,hi,_,_=>by simp at hi;subst hi;rfl
  | q :: l, c, 0, _, _, h2 => by
    have:=h2 (by simp);simp only [Hm] at this;simp [lF,this]
  | q :: l, c, i + 1, hi, h1, h2 => by
    have h0:=h1 0 (by simp) (by omega);simp only [Hm] at h0;have:=Rm l c i (by simpa using hi) (fun j h hj=>h1 (j+1) (by simpa using h) (by omega)) (fun h=>h2 (by simpa using h));simp [lF,h0,this]
theorem Sj:∀(l:List α) (c:ByteArray) (h:lF nm l c<l.length),Jt nm l c=decide (nm l[lF nm l c]=c)
  | [],c,h=>by simp at h
  | q :: l, c, h => by
    by_cases e:cT (nm q) c=true
    . have hp : lF nm (q :: l) c = lF nm l c + 1 := by simp [lF, e]
      have h':lF nm l c<l.length:=by rw [hp] at h;simpa using h
      have:=Sj l c h';simp only [Jt,e,aT,this,hp,List.getElem_cons_succ]
    have hp:lF nm (q::l) c=0:=by simp [lF,e]
    simp only [Jt,e,bK,hp,Hm];rfl
theorem Iw:∀(l:List α) (c:ByteArray),lF nm l c=l.length->Jt nm l c=false
  | [],c,_=>rfl
  | q :: l, c, h => by
    by_cases e:cT (nm q) c=true
    . have hp : lF nm (q :: l) c = lF nm l c + 1 := by simp [lF, e]
      simp only [Jt,e,aT];exact Iw l c (by rw [hp] at h;simpa using h)
    have hp:lF nm (q::l) c=0:=by simp [lF,e]
    rw [hp] at h;simp at h
theorem Bf {l:List α} (h:Jt nm l c=true):lF nm l c<l.length:=by
  have:=Sl nm l c;rcases uV (lF nm l c) l.length with h1 | h1
  . exact h1
  have:=Iw nm l c (by omega);rw [h] at this;cases this
theorem Ck:∀(l:List α) (p:α),eO nm l p=if Jt nm l (nm p)=true then l.set (lF nm l (nm p)) p else fP l (lF nm l (nm p)) p
  | [],p=>rfl
  | q :: l, p => by
    by_cases e:cT (nm q) (nm p)=true
    . have ih := Ck l p
      simp only [eO,Jt,lF,e,aT,ih];split <;> simp [fP]
    simp only [eO,Jt,lF,e,bK];by_cases e2:nm q=nm p <;> simp [e2,fP]
theorem rK(l:List α)(p:α):(eO nm l p).length<=l.length+1:=by
  induction l with
  | nil=>simp [eO]
  | cons q l ih => unfold eO; repeat' split
                   all_goals simp
                   all_goals omega
theorem oL {l:List α} {p x:α} (h:x∈eO nm l p):x=p\/x∈l:=by
  induction l with
  | nil=>simp [eO] at h;exact .inl h
  | cons q l ih =>
    unfold eO at h;split at h
    . rcases bQ.1 h with h | h
      . exact .inr (by simp [h])
      rcases ih h with h | h
      . exact .inl h
      exact .inr (by simp [h])
    split at h
    . rcases bQ.1 h with h | h
      . exact .inl h
      exact .inr (by simp [h])
    rcases bQ.1 h with h | h
    . exact .inl h
    exact .inr h
theorem jL {l:List α} (h:Sorted nm l)(p:α):Sorted nm (eO nm l p):=by
  induction l with
  | nil=>simp [eO,Sorted]
  | cons q l ih =>
    have h':=jC.1 h;unfold eO;split
    . rename_i e
      refine jC.2 ⟨fun x hx=>?_,ih h'.2⟩;rcases oL nm hx with rfl | hx
      . exact e
      exact h'.1 x hx
    rename_i e;split
    . rename_i e2
      exact jC.2 ⟨fun x hx=>by rw [<- e2];exact h'.1 x hx,h'.2⟩
    rename_i e2;have e3:=Ur (by simpa using e) e2;refine jC.2 ⟨fun x hx=>?_,h⟩;rcases bQ.1 hx with rfl | hx
    . exact e3
    exact tN e3 (h'.1 x hx)
theorem sZ(l:List α)(p:α):iB nm (l++ [p])=eO nm (iB nm l) p:=by simp [iB,jO]
theorem Kl(l:List α)(k:Nat)(h:k<l.length):iB nm (l.take (k+1))=eO nm (iB nm (l.take k)) l[k]:=by rw [bJ l k h,sZ]
theorem fJ(l:List α):Sorted nm (iB nm l):=by
  induction l using pQ with
  | h0=>simp [iB,Sorted]
  | h1 l x ih=>rw [sZ];exact jL nm ih x
theorem iC(l:List α):(iB nm l).length<=l.length:=by
  induction l using pQ with
  | h0=>simp [iB]
  | h1 l x ih=>rw [sZ];have:=rK nm (iB nm l) x;simp;omega
theorem aDt {l:List α} {p:α} (h:∀x∈l,cT (nm x) (nm p)=true):eO nm l p=l++ [p]:=by
  induction l with
  | nil=>rfl
  | cons q l ih =>
    have:=h q (by simp);simp only [eO,this,aT,aQ];rw [ih fun x hx=>h x (by simp [hx])]
theorem qK {l:List α} (h:Sorted nm l):iB nm l=l:=by
  induction l using pQ with
  | h0=>rfl
  | h1 l x ih =>
    have h':=Gi.1 h;rw [sZ,ih h'.1,aDt nm fun y hy=>h'.2.2 y hy x (by simp)]
theorem Iy {l:List α} (h:Sorted nm l)(c:ByteArray):Jt nm l c=mG nm l c:=by
  induction l with
  | nil=>rfl
  | cons q l ih =>
    have h':=jC.1 h;unfold Jt mG;simp only [List.any_cons];split
    . rename_i e
      rw [ih h'.2];have:¬nm q=c:=rA e;simp [this,mG]
    rename_i e;have:(l.any fun p=>decide (nm p=c))=false:=by
      rw [nQ];intro x hx;simp only [fF];rintro rfl;have:=h'.1 x hx;exact e this
    rw [this,zD]
theorem tQ {l:List α} (h:Sorted nm l)(c:ByteArray):Sorted nm (lP nm l c):=List.Pairwise.filter _ h
theorem Ea(l:List α)(c:ByteArray):(lP nm l c).length<=l.length:=kO _ _
theorem Lr {l:List α} (c:ByteArray):((lP nm l c).length=l.length)↔mG nm l c=false:=by
  unfold lP mG;rw [List.length_filter_eq_length_iff,nQ];simp
theorem Ad(l:List α)(c:ByteArray)(k:Nat)(h:k<l.length):lP nm (l.take (k+1)) c=lP nm (l.take k) c++if nm l[k]=c then [] else [l[k]]:=by
  unfold lP;rw [bJ l k h,fZ,gT];by_cases e:nm l[k]=c <;> simp [e]
theorem aRt {l:List α} {m:Nat} (hs:Sorted nm l)(hm:m<l.length)(h:cT (nm l[m]) c=true):∀j (h:j<l.length),j<m+1->cT (nm l[j]) c=true:=fun j hj hjm=>by
  rcases uV j m with h1 | h1
  . exact tN (nW.1 hs j m hj hm h1) h
  obtain rfl:j=m:=by omega
  exact h
theorem aSm {l:List α} {m:Nat} (hs:Sorted nm l)(hm:m<l.length)(h:cT (nm l[m]) c=false):∀j (h:j<l.length),m<=j->cT (nm l[j]) c=false:=fun j hj hjm=>by
  rcases uV m j with h1 | h1
  . have := nW.1 hs m j hm hj h1
    cases e:cT (nm l[j]) c with
    | false=>rfl
    | true=>rw [tN this e] at h;cases h
  obtain rfl:j=m:=by omega
  exact h
def mW(p:α)(s:List α×Bool)(x:α):List α×Bool:=
  let s1:=if s.2=false/\cT (nm x) (nm p)=false then(s.1++ [p],true)else s
  if nm x=nm p then s1 else(s1.1++ [x],s1.2)
def rX(l:List α)(p:α):List α×Bool:=l.foldl (mW nm p) ([],false)
def aD2(s:List α×Bool)(p:α):List α:=if s.2=true then s.1 else s.1++ [p]
theorem qA(l:List α)(p:α)(k:Nat)(h:k<l.length):rX nm (l.take (k+1)) p=mW nm p (rX nm (l.take k) p) l[k]:=by
  unfold rX;rw [bJ l k h,jO];rfl
theorem aF1(l:List α)(p:α):(rX nm l p).1.length<=l.length+(if(rX nm l p).2=true then 1 else 0):=by
  induction l using pQ with
  | h0=>simp [rX]
  | h1 l x ih =>
    have e:rX nm (l++ [x]) p=mW nm p (rX nm l p) x:=by unfold rX;rw [jO];rfl
    rw [e];generalize rX nm l p=s at ih;obtain⟨o,b⟩:=s;unfold mW;cases b <;> by_cases e1:cT (nm x) (nm p)=false <;> by_cases e2:nm x=nm p <;> simp_all <;> omega
theorem Ma(p:α):∀(l o:List α),(l.foldl (mW nm p) (o,true))=(o++lP nm l (nm p),true)
  | [],o=>by simp [lP]
  | x :: l, o => by
    rw [dO];have e:mW nm p (o,true) x=(if nm x=nm p then o else o++ [x],true):=by
      unfold mW;simp;split <;> rfl
    rw [e,Ma p l];unfold lP;by_cases e2:nm x=nm p <;> simp [e2]
theorem Ij (p : α) : ∀ (l o : List α), Sorted nm l -> aD2 (l.foldl (mW nm p) (o, false)) p = o ++ eO nm l p
  | [],o,_=>by simp [aD2,eO]
  | x :: l, o, h => by
    have h':=jC.1 h;rw [dO];by_cases e1:cT (nm x) (nm p)=true
    . have e : mW nm p (o, false) x = (o ++ [x], false) := by
        unfold mW;simp [e1,rA e1]
      rw [e,Ij p l _ h'.2];simp [eO,e1]
    have e1':cT (nm x) (nm p)=false:=by simpa using e1
    have hid:∀y∈l,nm y≠nm p:=fun y hy hp=>e1 (by have:=h'.1 y hy;rw [hp] at this;exact this);have hdel:lP nm l (nm p)=l:=by
      unfold lP;rw [oB];intro y hy;simp [hid y hy]
    have e:mW nm p (o,false) x=(if nm x=nm p then o++ [p] else o++ [p]++ [x],true):=by
      unfold mW;simp [e1'];split <;> rfl
    rw [e,Ma,hdel];by_cases e2:nm x=nm p <;> simp [aD2,eO,e1,e2,lX]
theorem Ql {l:List α} (h:Sorted nm l)(p:α):aD2 (rX nm l p) p=eO nm l p:=by
  have:=Ij nm p l [] h;simpa [rX] using this
def rU(out:List α)(c:ByteArray):Bool:=match out.getLast? with | none=>true | some q=>cT (nm q) c
def Nf(l out:List α):Option α:=((iB nm l).filter fun p=>rU nm out (nm p)).head?
theorem Vl {g:ByteArray->Bool} (hup:∀a b,cT a b=true->g a=true->g b=true):∀(l:List α) (p:α),(eO nm l p).filter (fun q=>g (nm q))=if g (nm p)=true then eO nm (l.filter fun q=>g (nm q)) p else l.filter fun q=>g (nm q)
  | [],p=>by by_cases e:g (nm p)=true <;> simp [eO,e]
  | q :: l, p => by
    have ih:=Vl hup l p;by_cases e:cT (nm q) (nm p)=true
    . simp only [eO, e, aT, gT, ih]
      by_cases e1:g (nm q)=true <;> by_cases e2:g (nm p)=true <;> simp [e1,e2,eO,e]
    by_cases e3:nm q=nm p
    . simp only [eO, e, e3, aT, bK, gT]
      by_cases e2:g (nm p)=true
      . simp [e2,eO,e3,lX]
      simp [e2,lX]
    simp only [eO,e,e3,bK,gT];have e4:=Ur (by simpa using e) e3;by_cases e2:g (nm p)=true
    . have e1 := hup _ _ e4 e2
      simp [e1,e2,eO,e,e3]
    by_cases e1:g (nm q)=true <;> simp [e1,e2,eO,e,e3]
theorem aHw(out:List α):∀a b,cT a b=true->rU nm out a=true->rU nm out b=true:=by
  intro a b h1 h2;unfold rU at *;split
  . rfl
  rename_i q hq;rw [hq] at h2;exact tN h2 h1
theorem aFj(l out:List α)(k:Nat)(h:k<l.length):Nf nm (l.take (k+1)) out=if rU nm out (nm l[k])=true then(match Nf nm (l.take k) out with | none=>some l[k] | some q=>if cT (nm q) (nm l[k])=true then some q else some l[k])else Nf nm (l.take k) out:=by
  unfold Nf;rw [Kl nm l k h,Vl nm (aHw nm out)];split
  . cases (iB nm (l.take k)).filter fun p => rU nm out (nm p) with
    | nil=>rfl
    | cons q r =>
      simp only [eO,List.head?_cons]
      repeat' split
      all_goals rfl
  rfl
theorem aTz(l out:List α):Nf nm (l.take 0) out=none:=by simp [Nf,iB]
theorem aL3 (l : List α) (k : Nat) (hk : k <= (iB nm l).length) : Nf nm l ((iB nm l).take k) = (iB nm l)[k]? := by
  have hs := fJ nm l;unfold Nf;generalize iB nm l = S at *;have hd : (S.filter fun p => rU nm (S.take k) (nm p)) = S.drop k := by
    cases k with
    | zero=>simp [rU]
    | succ k =>
      have hl:(S.take (k+1)).getLast?=some S[k]:=by rw [bJ S k (by omega),List.getLast?_concat]
      have hg:∀p,rU nm (S.take (k+1)) (nm p)=cT (nm S[k]) (nm p):=fun p=>by unfold rU;rw [hl]
      simp only [hg];have hsplit:∀q:α->Bool,S.filter q=(S.take (k+1)).filter q++(S.drop (k+1)).filter q:=fun q=>by rw [<- fZ,fH]
      rw [hsplit];have hp:(S.take (k+1)++S.drop (k+1)).Pairwise fun a b=>cT (nm a) (nm b)=true:=by rw [fH];exact hs
      have h3:=Gi.1 hp;have hmem:S[k]∈S.take (k+1):=by rw [bJ S k (by omega)];exact zM _ (fG.2 rfl)
      have f2:(S.drop (k+1)).filter (fun p=>cT (nm S[k]) (nm p))=S.drop (k+1):=by
        rw [oB];exact fun x hx=>h3.2.2 _ hmem x hx
      have f1:(S.take (k+1)).filter (fun p=>cT (nm S[k]) (nm p))= []:=by
        rw [sP];intro x hx;rw [bJ S k (by omega)] at hx h3;rcases bN.1 hx with hx | hx
        . have := (Gi.1 h3.1).2.2 x hx S[k] (by simp)
          rw [Ji this];simp
        simp at hx;subst hx;rw [lX];simp
      rw [f1,f2,aP]
  rw [hd,qQ]
end
abbrev nA:AT->ByteArray:=AT.name
abbrev nP:PI->ByteArray:=PI.name
theorem eC(a b:Nat):Int.fdiv ((a:Int)+(b:Int)) (2 ^ min 1 IntKind.u64.bits)=(((a+b) / 2:Nat):Int):=by
  have e:(2:Int) ^ min 1 IntKind.u64.bits=2:=by decide
  rw [e,Qk _ (by omega)];omega
theorem aQj:IntKind.u64.min=0:=rfl
theorem aQi:IntKind.u64.max=18446744073709551615:=by decide
theorem eA(n:Int):inR .u64 n=(0<=n/\n<=18446744073709551615):=by
  show(IntKind.u64.min<=n/\n<=IntKind.u64.max)=_
  rw [aQj,aQi]
theorem Uo(s:ByteArray)(σ:List (List D))  :Ct prog 258 [D.str s] σ (fun r σ'=>r= .bool false/\σ'=σ):=by
  refine zf func258 ?_;refine aZ fun _ _ Z=>?_;simp;apply Z;refine aZ fun _ _ Z=>?_;simp;apply Z;apply aD;simp [aJ]
theorem Ku(a b:ByteArray)(σ:List (List D))  :Ct prog 233 [D.str a,D.str b] σ (fun r σ'=>r= .int (Jm a b)/\σ'=σ):=by
  refine zf func233 ?_;refine aZ fun _ _ Z=>?_;simp;apply Z;refine aZ fun _ _ Z=>?_;refine zs 1 fun _ Y=>?_;simp;apply Y;refine aE fun _ Y=>?_;simp;refine bS (Uo a _) ?_;apply Y;simp;apply Z;refine aZ fun _ _ Z=>?_;refine zs 1 fun _ Y=>?_;simp;apply Y;refine aE fun _ Y=>?_;simp;refine bS (Uo b _) ?_;apply Y;simp;apply Z;apply aF;refine aZ fun _ _ Z=>?_;simp;apply Z;refine zI ?_ ?_<;>intro c1<;>try simp at c1
  apply zA;apply aF;refine aZ fun _ _ Z=>?_;simp;apply Z;refine zI ?_ ?_<;>intro c2<;>try simp at c2
  apply zA;apply aF;refine aZ fun _ _ Z=>?_;simp;apply Z;refine zI ?_ ?_<;>intro c3<;>try simp at c3
  . refine zk [0,1,4] ?_
    refine aZ fun _ _ Z=>?_;simp;apply Z;apply aD;simp [aJ,Jm,cT, *]
  apply zA;apply aF;refine zk [0,1,4] ?_;refine aZ fun _ _ Z=>?_;simp;apply Z;refine zI ?_ ?_<;>intro c4<;>try simp at c4
  . refine aZ fun _ _ Z=>?_
    simp;apply Z;apply aD;simp [aJ,Jm,cT, *]
  apply zA;refine aZ fun _ _ Z=>?_;simp;apply Z;apply aD;simp [aJ,Jm,cT, *]
theorem aBl(x:AT)(s:ByteArray)(σ:List (List D))  :Ct prog 232 [cY x,D.str s] σ (fun r σ'=>r= .int (Jm x.name s)/\σ'=σ):=by
  refine zf func232 ?_;refine aZ fun _ _ Z=>?_;simp;apply Z;refine aZ fun _ _ Z=>?_;refine zs 3 fun _ Y=>?_;simp;apply Y;refine aE fun _ Y=>?_;simp;refine bS (Ku x.name s _) ?_;apply Y;simp;apply Z;apply aD;simp [aJ]
@[simp] abbrev q29_1:Cfg:=⟨[],[],[],[13,27,43],[]⟩
theorem aVa (N cap : Nat) (l : List AT) (rest : List D) (c : ByteArray) (σ : List (List D)) (hl : l.length <= 1000000) (hN : σ[N]? = some (l.flatMap cA ++ rest)) (hs : Sorted nA l) : Ct prog 231 [.slo N 0 l.length cap, D.str c, .clo (.func 232) [] []] σ (fun r σ' => r = .tup [.int ((lF nA l c : Nat) : Int), .bool (Jt nA l c)] /\ σ' = σ) := by
  refine zf func231 ?_;refine zr q29_1 fun _ _ Z=>?_;simp(disch:=omega)[hN,eC,eA];apply Z;refine zr q29_1 fun _ _ Z=>?_;simp(disch:=omega)[hN,eC,eA];and_intros<;>(try omega);apply Z;refine zr q29_1 fun _ _ Z=>?_;simp(disch:=omega)[hN,eC,eA];apply Z;apply Tt;refine zk [0,1,2,6,7,8,9,10] ?_;refine bA (fun(s:Nat×Nat)=> [(9,.d (.v (.int .i64 (s.1:Int)))),(10,.d (.v (.int .i64 (s.2:Int)))),(11,.d (.any))]) [9,10,11,15,16,17,18,19,20,21,22,23,24,25,26,27,28,29,30,31,32,33,34] (fun(s:Nat×Nat)=>s.1<=s.2/\s.2<=l.length/\(∀j (h:j<l.length),j<s.1->cT l[j].name c=true)/\(∀j (h:j<l.length),s.2<=j->cT l[j].name c=false)) (fun(s:Nat×Nat)=>s.2 - s.1) ((0,l.length)) (by simp <;> rfl) ?_ ?_ ?_
  . simp
  . exact⟨by omega,by omega,fun j h h2=>absurd h2 (by simp),fun j h h2=>absurd h2 (by simp;omega)⟩
  rintro⟨lo,hi⟩ ⟨h1,h2,h3,h4⟩;simp only [aQ,aP];dsimp only at h1 h2 h3 h4;have hmid:lo<hi->(lo+hi) / 2<hi:=fun h=>by omega
  apply aF;refine zr q29_1 fun _ _ Z=>?_;simp(disch:=omega)[hN,eC,eA];apply Z;refine zI ?_ ?_<;>intro c1<;>try simp at c1
  . apply zA
    apply aR;refine zk [0,1,2,6,7,8,9,10,11] ?_;refine zr q29_1 fun _ _ Z=>?_;simp(disch:=omega)[hN,eC,eA];and_intros<;>(try omega);apply Z;refine zk [0,1,2,6,7,8,9,10,11] ?_;refine zr q29_1 fun _ _ Z=>?_;refine zs 6 fun _ Y=>?_;simp(disch:=omega)[hN,eC,eA];and_intros<;>(try omega);apply Y;refine aE fun _ Y=>?_;simp(disch:=omega)[hN,eC,eA];refine bS (aBl l[(lo+hi) / 2] c _) ?_;apply Y;simp(disch:=omega)[hN,eC,eA];apply Z;refine zI ?_ ?_<;>intro c2<;>try simp at c2
    . refine zk [0,1,2,6,7,8,9,10,11] ?_
      refine zt q29_1 fun _ _ Z=>?_;simp(disch:=omega)[hN,eC,eA];and_intros<;>(try omega);apply Z;apply mP;refine zq (((lo+hi) / 2+1,hi)) ?_ ?_ ?_
      . exact⟨by dsimp only;omega,by dsimp only;omega,aRt nA hs (by omega) (by simpa [Lk] using c2),h4⟩
      . try dsimp only
        omega
      simp(disch:=omega)[hN,eC,eA]
    refine zk [0,1,2,6,7,8,9,10,11] ?_;refine zt q29_1 fun _ _ Z=>?_;simp(disch:=omega)[hN,eC,eA];apply Z;apply mP;refine zq ((lo,(lo+hi) / 2)) ?_ ?_ ?_
    . exact⟨by dsimp only;omega,by dsimp only;omega,h3,aSm nA hs (by omega) ((aBk _ _).1 (by omega))⟩
    . try dsimp only
      omega
    simp(disch:=omega)[hN,eC,eA]
  obtain rfl:lo=hi:=by omega
  have hpos:lF nA l c=lo:=Rm nA l c lo h2 h3 (fun h=>h4 lo h (aY _));apply zE;refine zk [0,1,2,6,7,8,9] ?_;refine iU q29_1 fun all hall _ Z=>?_;have ga4:aK all 4=some 39:=hall 4;refine zs 5 fun _ Y=>?_;simp(disch:=omega)[hN,eC,eA,ga4];apply Y;refine zb 39 ?_ ?_<;>intro g3<;>try simp at g3
  . refine zs 6 fun _ Y=>?_
    simp(disch:=omega)[hN,eC,eA,ga4];and_intros<;>(try omega);apply Y;refine zg ga4 fun _ Y=>?_;simp(disch:=omega)[hN,eC,eA,ga4];refine bS (aBl l[lo] c _) ?_;apply Y;simp(disch:=omega)[hN,eC,eA,ga4];apply Z;apply aD;simp [aJ,hpos,Sj, *];exact Nn _ _
  refine zs 8 fun _ Y=>?_;simp(disch:=omega)[hN,eC,eA,ga4];and_intros<;>(try omega);apply Y;simp(disch:=omega)[hN,eC,eA,ga4];apply Z;apply aD;simp [aJ,hpos, *];exact Iw _ _ _ (by omega)
theorem So(N cap:Nat)(l:List AT)(rest:List D)(c:ByteArray)(σ:List (List D))(hl:l.length<=1000000)(hN:σ[N]?=some (l.flatMap cA++rest))(hs:Sorted nA l):Ct prog 198 [.slo N 0 l.length cap,D.str c] σ (fun r σ'=>r= .tup [.int ((lF nA l c:Nat):Int),.bool (Jt nA l c)]/\σ'=σ):=by
  refine zf func198 ?_;refine aZ fun _ _ Z=>?_;simp[hN];apply Z;refine aZ fun _ _ Z=>?_;refine zs 2 fun _ Y=>?_;simp[hN];apply Y;refine aE fun _ Y=>?_;simp[hN];refine bS (aVa N cap l rest c _ hl hN hs) ?_;apply Y;simp[hN];apply Z;apply aD;simp [aJ]
@[simp] abbrev q29_2:Cfg:=⟨[4,19,20,24],[],[],[18],[]⟩
theorem aJr(l:List AT)(p:AT)(σ:List (List D))(hl:l.length<=999999)(hs:Sorted nA l):Ct prog 187 [.xs 2 (l.map cY),cY p] σ (fun r σ'=>r= .xs 2 ((eO nA l p).map cY)/\∃J,σ'=σ++J):=by
  refine zf func187 ?_;refine iQ 0 2 rfl (by decide) fun cap rest hcap hcm hrest hk0 hes=>?_;subst hrest;simp only [bU] at hcap |-;rw [cW (f:=cA) (fun _=>rfl)];have hpl:=Sl nA l p.name;refine zr q29_2 fun _ _ Z=>?_;simp(disch:=omega)[aH,aG];apply Z;refine zr q29_2 fun _ _ Z=>?_;refine zs 3 fun _ Y=>?_;simp(disch:=omega)[aH,aG];apply Y;refine aE fun _ Y=>?_;simp(disch:=omega)[aH,aG];refine bS (So σ.length cap l (List.replicate ((cap - l.length) * 2) .any) p.name _ (by omega) (by simp [aH]) hs) ?_;apply Y;simp(disch:=omega)[aH,aG];apply Z;apply aF;refine zr q29_2 fun _ _ Z=>?_;simp(disch:=omega)[aH,aG];apply Z;refine zI ?_ ?_<;>intro c1<;>try simp at c1
  . have hlt := Bf nA c1
    refine zk [0,3,4,5] ?_;refine zr q29_2 fun _ _ Z=>?_;simp(disch:=omega)[aH,aG];and_intros<;>(try omega);apply Z;refine zr q29_2 fun _ _ Z=>?_;simp(disch:=omega)[aH,aG];apply Z;refine fK 4 2 σ.length l.length cap ((l.set (lF nA l p.name) p).map cY) ((l.set (lF nA l p.name) p).flatMap cA++List.replicate ((cap - l.length) * 2) .any) (by simp <;> rfl) (by simp [aH]) (by omega) (by simp only [bB,dK (f:=cA) (k:=2) (fun _=>rfl),cS,cH];omega) (by simp) (mS (d:=cY) (fun _=>⟨rfl,rfl⟩) _) (by rw [cW (f:=cA) (fun _=>rfl)];exact dB _ _) ?_;apply aD;simp [aJ,Ck,c1]
  apply zA;refine fK 0 2 σ.length l.length cap (l.map cY) (l.flatMap cA++List.replicate ((cap - l.length) * 2) .any) (by simp <;> rfl) (by simp [aH]) (by omega) (by simp only [bB,dK (f:=cA) (k:=2) (fun _=>rfl),cS,cH];omega) (by simp) (mS (d:=cY) (fun _=>⟨rfl,rfl⟩) _) (by rw [cW (f:=cA) (fun _=>rfl)];exact dB _ _) ?_;refine zk [0,3,4,5] ?_;refine zr q29_2 fun _ _ Z=>?_;refine zs 4 fun _ Y=>?_;simp(disch:=omega)[aH,aG];and_intros<;>(try omega);apply Y;refine aE fun _ Y=>?_;simp(disch:=omega)[aH,aG];refine bS (aOe l p (lF nA l p.name) _ (by omega) hpl) ?_;apply Y;simp(disch:=omega)[aH,aG];apply Z;apply aD;simp [aJ,Ck,c1]
theorem aCa(l:List AT)(p:AT)(σ:List (List D))(hl:l.length<=999999)(hs:Sorted nA l):Ct prog 187 [.xs 2 (l.map cY),cY p] σ (fun r σ'=>r= .xs 2 ((eO nA l p).map cY)/\σ'=σ):=
  (aJr l p σ hl hs).trim fun r σ' ⟨hr,J,hs⟩=>⟨σ,J,hs,rfl,by rw [hr];exact aS7 _ _,fun n cs h=> .inl h,hr,rfl⟩
theorem xZ(l:List AT)(rest:List D)(i:Nat)(h:i<l.length):At false 1 ((l.flatMap cA++rest).drop (i * 2+1))=some (D.str l[i].value):=Xb (f:=cA) (k:=2) (fun _=>rfl) l rest i 1 h (by decide)
@[simp] abbrev q29_3:Cfg:=⟨[2,3,12,14,16],[],[],[],[]⟩
theorem Fy(l:List AT)(σ:List (List D))(hl:l.length<=999999):Ct prog 107 [.sl false (l.map cY)] σ (fun r σ'=>r= .xs 2 ((iB nA l).map cY)/\σ'=σ):=by
  refine zf func107 ?_;refine zr q29_3 fun _ _ Z=>?_;simp(disch:=omega);apply Z;refine zr q29_3 fun _ _ Z=>?_;simp(disch:=omega);apply Z;apply aF;refine zr q29_3 fun _ _ Z=>?_;simp(disch:=omega);and_intros<;>(try omega);apply Z;apply aR;refine zk [2,3,6,7,8] ?_;refine Dt 3 2 (by simp <;> rfl) ?_;refine bA (fun(k:Nat)=> [(8,.d (.v (.int .i64 (k:Int)))),(3,.d (.xs 2 ((iB nA (l.take k)).map cY)))]) [3,5,8,9,10,11,12,13,14,15] (fun(k:Nat)=>k<=l.length) (fun(k:Nat)=>l.length - k) (0) (by simp <;> rfl) ?_ ?_ ?_
  . simp [iB]
  . simp
  rintro k hk;simp only [aQ,aP];have hol:=iC nA (l.take k);simp only [bG] at hol;refine zr q29_3 fun _ _ Z=>?_;simp(disch:=omega);apply Z;apply aF;refine zI ?_ ?_<;>intro c1<;>try simp at c1
  . apply kB
    refine zr q29_3 fun _ _ Z=>?_;simp(disch:=omega);and_intros<;>(try omega);apply Z;refine zt q29_3 fun _ _ Z=>?_;refine zs 2 fun _ Y=>?_;simp(disch:=omega);apply Y;refine aE fun _ Y=>?_;simp(disch:=omega);refine bS (aCa (iB nA (l.take k)) l[k] _ (by omega) (fJ nA _)) ?_;apply Y;simp(disch:=omega);apply Z;apply zB;refine zk [2,3,6,7,8] ?_;refine zt q29_3 fun _ _ Z=>?_;simp(disch:=omega);and_intros<;>(try omega);apply Z;refine zq (k+1) ?_ ?_ ?_
    . omega
    . try dsimp only
      omega
    simp(disch:=omega)[Kl]
  apply zE;refine zr q29_3 fun _ _ Z=>?_;simp(disch:=omega);apply Z;apply aD;simp [aJ];rw [bZ (by omega)]
@[simp] abbrev q29_4:Cfg:=⟨[6,11],[],[],[21],[]⟩
theorem aLv(l:List AT)(c:ByteArray)(σ:List (List D))(hl:l.length<=999999):Ct prog 234 [.sl false (l.map cY),D.str c] σ (fun r σ'=>(∃v:ByteArray,r= .tup [D.str v,.bool (Jt nA (iB nA l) c)])/\∃J,σ'=σ++J):=by
  refine zf func234 ?_;have hol:=iC nA l;refine zr q29_4 fun _ _ Z=>?_;simp(disch:=omega)[aH,aG,xZ];apply Z;refine zr q29_4 fun _ _ Z=>?_;refine zs 1 fun _ Y=>?_;simp(disch:=omega)[aH,aG,xZ];apply Y;refine aE fun _ Y=>?_;simp(disch:=omega)[aH,aG,xZ];refine bS (Fy l _ hl) ?_;apply Y;simp(disch:=omega)[aH,aG,xZ];apply Z;apply aF;refine iQ 6 2 rfl (by decide) fun cap rest hcap hcm hrest hk0 hes=>?_;subst hrest;simp only [bU] at hcap |-;rw [cW (f:=cA) (fun _=>rfl)];refine zr q29_4 fun _ _ Z=>?_;refine zs 2 fun _ Y=>?_;simp(disch:=omega)[aH,aG,xZ];apply Y;refine aE fun _ Y=>?_;simp(disch:=omega)[aH,aG,xZ];refine bS (So σ.length cap (iB nA l) (List.replicate ((cap - (iB nA l).length) * 2) .any) c _ (by omega) (by simp [aH]) (fJ nA l)) ?_;apply Y;simp(disch:=omega)[aH,aG,xZ];apply Z;refine zk [4,5,6,7,8] ?_;refine zr q29_4 fun _ _ Z=>?_;simp(disch:=omega)[aH,aG,xZ];apply Z;refine zI ?_ ?_<;>intro c1<;>try simp at c1
  . have hlt := Bf nA c1
    refine zr q29_4 fun _ _ Z=>?_;simp(disch:=omega)[aH,aG,xZ];and_intros<;>(try omega);apply Z;apply aD;simp [aJ,c1]
  apply zA;refine zr q29_4 fun _ _ Z=>?_;simp(disch:=omega)[aH,aG,xZ];apply Z;refine zr q29_4 fun _ _ Z=>?_;simp(disch:=omega)[aH,aG,xZ];apply Z;apply aD;simp [aJ,c1]
theorem aBt(l:List AT)(c:ByteArray)(σ:List (List D))(hl:l.length<=999999)(hs:Sorted nA l):Ct prog 234 [.sl false (l.map cY),D.str c] σ (fun r σ'=>(∃v:ByteArray,r= .tup [D.str v,.bool (mG nA l c)])/\σ'=σ):=
  (aLv l c σ hl).trim fun r σ' ⟨⟨v,hr⟩,J,hs'⟩=>⟨σ,J,hs',rfl,by rw [hr];exact Sc.tup fun d hd=>by simp at hd;rcases hd with rfl | rfl <;> exact Sc.v _,fun n cs h=> .inl h,⟨v,by rw [hr,qK nA hs,Iy nA hs]⟩,rfl⟩
theorem aI5(l:List AT)(c:ByteArray)(v:ByteArray)(σ:List (List D))(hl:l.length<=99999):Ct prog 182 [.sl false (l.map cY),D.str c,D.str v] σ (fun r σ'=>r= .xs 2 ((eO nA (iB nA l) ⟨c,v⟩).map cY)/\σ'=σ):=by
  refine zf func182 ?_;have hol:=iC nA l;refine zr ⟨[6,9,10,12],[],[],[],[]⟩ fun _ _ Z=>?_;simp;apply Z;refine zr ⟨[6,9,10,12],[],[],[],[]⟩ fun _ _ Z=>?_;refine zs 1 fun _ Y=>?_;simp;apply Y;refine aE fun _ Y=>?_;simp;refine bS (Fy l _ (by omega)) ?_;apply Y;refine zs 3 fun _ Y=>?_;simp;apply Y;refine aE fun _ Y=>?_;simp;refine bS (aCa (iB nA l) ⟨c,v⟩ _ (by omega) (fJ nA l)) ?_;apply Y;simp;apply Z;apply aD;simp [aJ]
theorem aPb(l:List AT)(p:AT->Bool)(f:FuncId)(caps:List D)(σ:List (List D))(hl:l.length<=99999)(hcp:∀d∈caps,d.plain=true)(hcs:caps.map D.strip=caps)(hp:∀x τ,Ct prog f (cY x::caps) τ (fun r τ'=>r= .bool (p x)/\τ'=τ)):Ct prog 259 [.sl false (l.map cY),.clo (.func f) [] caps] σ (fun r σ'=>r= .xs 2 (((iB nA l).filter fun x=> !p x).map cY)/\σ'=σ):=by
  refine zf func259 ?_;have hol:=iC nA l;refine zr ⟨[4,7,8],[],[],[],[]⟩ fun _ _ Z=>?_;simp;apply Z;refine zr ⟨[4,7,8],[],[],[],[]⟩ fun _ _ Z=>?_;refine zs 1 fun _ Y=>?_;simp;apply Y;refine aE fun _ Y=>?_;simp;refine bS (Fy l _ (by omega)) ?_;apply Y;refine zs 1 fun _ Y=>?_;simp;apply Y;refine aE fun _ Y=>?_;simp;refine bS (Zi (iB nA l) p f caps _ (by omega) hcp hcs hp) ?_;apply Y;simp;apply Z;apply aD;simp [aJ]
theorem aEz(x:AT)(c:ByteArray)(σ:List (List D))  :Ct prog 260 [cY x,.adr [D.str c]] σ (fun r σ'=>r= .bool (decide (x.name=c))/\σ'=σ):=by
  refine zf func260 ?_;refine aZ fun _ _ Z=>?_;simp;apply Z;refine aZ fun _ _ Z=>?_;simp;apply Z;apply aD;simp[aJ]
theorem aDu(l:List AT)(c:ByteArray)(σ:List (List D))(hl:l.length<=99999):Ct prog 235 [.sl false (l.map cY),D.str c] σ (fun r σ'=>r= .xs 2 ((lP nA (iB nA l) c).map cY)/\σ'=σ):=by
  refine zf func235 ?_;refine zr ⟨[4],[3],[],[],[]⟩ fun _ _ Z=>?_;simp;apply Z;refine zr ⟨[4],[3],[],[],[]⟩ fun _ _ Z=>?_;refine zs 2 fun _ Y=>?_;simp;and_intros<;>(try omega);apply Y;refine aE fun _ Y=>?_;simp;refine bS (aPb l (fun x=>decide (x.name=c)) 260 [.adr [D.str c]] _ hl (by simp) (by simp) (fun x τ=>aEz x c τ)) ?_;apply Y;simp;apply Z;apply aD;simp [aJ,lP]
theorem aC7(l:List AT)(c:ByteArray)(v:ByteArray)(σ:List (List D))(hl:l.length<=99999)(hs:Sorted nA l):Ct prog 182 [.sl false (l.map cY),D.str c,D.str v] σ (fun r σ'=>r= .sl false ((eO nA l ⟨c,v⟩).map cY)/\σ'=σ):=
  (aI5 l c v σ hl).freeze fun r σ' h=>by rw [qK nA hs] at h;exact h
theorem aJ7(l:List AT)(c:ByteArray)(σ:List (List D))(hl:l.length<=99999)(hs:Sorted nA l):Ct prog 235 [.sl false (l.map cY),D.str c] σ (fun r σ'=>r= .sl false ((lP nA l c).map cY)/\σ'=σ):=
  (aDu l c σ hl).freeze fun r σ' h=>by rw [qK nA hs] at h;exact h
theorem aBa(x:PI)(s:ByteArray)(σ:List (List D))  :Ct prog 237 [cR x,D.str s] σ (fun r σ'=>r= .int (Jm x.name s)/\σ'=σ):=by
  refine zf func237 ?_;refine aZ fun _ _ Z=>?_;simp;apply Z;refine aZ fun _ _ Z=>?_;refine zs 3 fun _ Y=>?_;simp;apply Y;refine aE fun _ Y=>?_;simp;refine bS (Ku x.name s _) ?_;apply Y;simp;apply Z;apply aD;simp [aJ]
theorem aTo (N cap : Nat) (l : List PI) (rest : List D) (c : ByteArray) (σ : List (List D)) (hl : l.length <= 1000000) (hN : σ[N]? = some (l.flatMap cP ++ rest)) (hs : Sorted nP l) : Ct prog 236 [.slo N 0 l.length cap, D.str c, .clo (.func 237) [] []] σ (fun r σ' => r = .tup [.int ((lF nP l c : Nat) : Int), .bool (Jt nP l c)] /\ σ' = σ) := by
  refine zf func236 ?_;refine zr q29_1 fun _ _ Z=>?_;simp(disch:=omega)[hN,eC,eA];apply Z;refine zr q29_1 fun _ _ Z=>?_;simp(disch:=omega)[hN,eC,eA];and_intros<;>(try omega);apply Z;refine zr q29_1 fun _ _ Z=>?_;simp(disch:=omega)[hN,eC,eA];apply Z;apply Tt;refine zk [0,1,2,6,7,8,9,10] ?_;refine bA (fun(s:Nat×Nat)=> [(9,.d (.v (.int .i64 (s.1:Int)))),(10,.d (.v (.int .i64 (s.2:Int)))),(11,.d (.any))]) [9,10,11,15,16,17,18,19,20,21,22,23,24,25,26,27,28,29,30,31,32,33,34] (fun(s:Nat×Nat)=>s.1<=s.2/\s.2<=l.length/\(∀j (h:j<l.length),j<s.1->cT l[j].name c=true)/\(∀j (h:j<l.length),s.2<=j->cT l[j].name c=false)) (fun(s:Nat×Nat)=>s.2 - s.1) ((0,l.length)) (by simp <;> rfl) ?_ ?_ ?_
  . simp
  . exact⟨by omega,by omega,fun j h h2=>absurd h2 (by simp),fun j h h2=>absurd h2 (by simp;omega)⟩
  rintro⟨lo,hi⟩ ⟨h1,h2,h3,h4⟩;simp only [aQ,aP];dsimp only at h1 h2 h3 h4;have hmid:lo<hi->(lo+hi) / 2<hi:=fun h=>by omega
  apply aF;refine zr q29_1 fun _ _ Z=>?_;simp(disch:=omega)[hN,eC,eA];apply Z;refine zI ?_ ?_<;>intro c1<;>try simp at c1
  . apply zA
    apply aR;refine zk [0,1,2,6,7,8,9,10,11] ?_;refine zr q29_1 fun _ _ Z=>?_;simp(disch:=omega)[hN,eC,eA];and_intros<;>(try omega);apply Z;refine zk [0,1,2,6,7,8,9,10,11] ?_;refine zr q29_1 fun _ _ Z=>?_;refine zs 6 fun _ Y=>?_;simp(disch:=omega)[hN,eC,eA];and_intros<;>(try omega);apply Y;refine aE fun _ Y=>?_;simp(disch:=omega)[hN,eC,eA];refine bS (aBa l[(lo+hi) / 2] c _) ?_;apply Y;simp(disch:=omega)[hN,eC,eA];apply Z;refine zI ?_ ?_<;>intro c2<;>try simp at c2
    . refine zk [0,1,2,6,7,8,9,10,11] ?_
      refine zt q29_1 fun _ _ Z=>?_;simp(disch:=omega)[hN,eC,eA];and_intros<;>(try omega);apply Z;apply mP;refine zq (((lo+hi) / 2+1,hi)) ?_ ?_ ?_
      . exact⟨by dsimp only;omega,by dsimp only;omega,aRt nP hs (by omega) (by simpa [Lk] using c2),h4⟩
      . try dsimp only
        omega
      simp(disch:=omega)[hN,eC,eA]
    refine zk [0,1,2,6,7,8,9,10,11] ?_;refine zt q29_1 fun _ _ Z=>?_;simp(disch:=omega)[hN,eC,eA];apply Z;apply mP;refine zq ((lo,(lo+hi) / 2)) ?_ ?_ ?_
    . exact⟨by dsimp only;omega,by dsimp only;omega,h3,aSm nP hs (by omega) ((aBk _ _).1 (by omega))⟩
    . try dsimp only
      omega
    simp(disch:=omega)[hN,eC,eA]
  obtain rfl:lo=hi:=by omega
  have hpos:lF nP l c=lo:=Rm nP l c lo h2 h3 (fun h=>h4 lo h (aY _));apply zE;refine zk [0,1,2,6,7,8,9] ?_;refine iU q29_1 fun all hall _ Z=>?_;have ga4:aK all 4=some 39:=hall 4;refine zs 5 fun _ Y=>?_;simp(disch:=omega)[hN,eC,eA,ga4];apply Y;refine zb 39 ?_ ?_<;>intro g3<;>try simp at g3
  . refine zs 6 fun _ Y=>?_
    simp(disch:=omega)[hN,eC,eA,ga4];and_intros<;>(try omega);apply Y;refine zg ga4 fun _ Y=>?_;simp(disch:=omega)[hN,eC,eA,ga4];refine bS (aBa l[lo] c _) ?_;apply Y;simp(disch:=omega)[hN,eC,eA,ga4];apply Z;apply aD;simp [aJ,hpos,Sj, *];exact Nn _ _
  refine zs 8 fun _ Y=>?_;simp(disch:=omega)[hN,eC,eA,ga4];and_intros<;>(try omega);apply Y;simp(disch:=omega)[hN,eC,eA,ga4];apply Z;apply aD;simp [aJ,hpos, *];exact Iw _ _ _ (by omega)
theorem Ru(N cap:Nat)(l:List PI)(rest:List D)(c:ByteArray)(σ:List (List D))(hl:l.length<=1000000)(hN:σ[N]?=some (l.flatMap cP++rest))(hs:Sorted nP l):Ct prog 201 [.slo N 0 l.length cap,D.str c] σ (fun r σ'=>r= .tup [.int ((lF nP l c:Nat):Int),.bool (Jt nP l c)]/\σ'=σ):=by
  refine zf func201 ?_;refine aZ fun _ _ Z=>?_;simp[hN];apply Z;refine aZ fun _ _ Z=>?_;refine zs 2 fun _ Y=>?_;simp[hN];apply Y;refine aE fun _ Y=>?_;simp[hN];refine bS (aTo N cap l rest c _ hl hN hs) ?_;apply Y;simp[hN];apply Z;apply aD;simp [aJ]
theorem aIb(l:List PI)(p:PI)(σ:List (List D))(hl:l.length<=999999)(hs:Sorted nP l):Ct prog 188 [.xs 2 (l.map cR),cR p] σ (fun r σ'=>r= .xs 2 ((eO nP l p).map cR)/\∃J,σ'=σ++J):=by
  refine zf func188 ?_;refine iQ 0 2 rfl (by decide) fun cap rest hcap hcm hrest hk0 hes=>?_;subst hrest;simp only [bU] at hcap |-;rw [cW (f:=cP) (fun _=>rfl)];have hpl:=Sl nP l p.name;refine zr q29_2 fun _ _ Z=>?_;simp(disch:=omega)[aH,aG];apply Z;refine zr q29_2 fun _ _ Z=>?_;refine zs 3 fun _ Y=>?_;simp(disch:=omega)[aH,aG];apply Y;refine aE fun _ Y=>?_;simp(disch:=omega)[aH,aG];refine bS (Ru σ.length cap l (List.replicate ((cap - l.length) * 2) .any) p.name _ (by omega) (by simp [aH]) hs) ?_;apply Y;simp(disch:=omega)[aH,aG];apply Z;apply aF;refine zr q29_2 fun _ _ Z=>?_;simp(disch:=omega)[aH,aG];apply Z;refine zI ?_ ?_<;>intro c1<;>try simp at c1
  . have hlt := Bf nP c1
    refine zk [0,3,4,5] ?_;refine zr q29_2 fun _ _ Z=>?_;simp(disch:=omega)[aH,aG];and_intros<;>(try omega);apply Z;refine zr q29_2 fun _ _ Z=>?_;simp(disch:=omega)[aH,aG];apply Z;refine fK 4 2 σ.length l.length cap ((l.set (lF nP l p.name) p).map cR) ((l.set (lF nP l p.name) p).flatMap cP++List.replicate ((cap - l.length) * 2) .any) (by simp <;> rfl) (by simp [aH]) (by omega) (by simp only [bB,dK (f:=cP) (k:=2) (fun _=>rfl),cS,cH];omega) (by simp) (mS (d:=cR) (fun _=>⟨rfl,rfl⟩) _) (by rw [cW (f:=cP) (fun _=>rfl)];exact dB _ _) ?_;apply aD;simp [aJ,Ck,c1]
  apply zA;refine fK 0 2 σ.length l.length cap (l.map cR) (l.flatMap cP++List.replicate ((cap - l.length) * 2) .any) (by simp <;> rfl) (by simp [aH]) (by omega) (by simp only [bB,dK (f:=cP) (k:=2) (fun _=>rfl),cS,cH];omega) (by simp) (mS (d:=cR) (fun _=>⟨rfl,rfl⟩) _) (by rw [cW (f:=cP) (fun _=>rfl)];exact dB _ _) ?_;refine zk [0,3,4,5] ?_;refine zr q29_2 fun _ _ Z=>?_;refine zs 4 fun _ Y=>?_;simp(disch:=omega)[aH,aG];and_intros<;>(try omega);apply Y;refine aE fun _ Y=>?_;simp(disch:=omega)[aH,aG];refine bS (aQn l p (lF nP l p.name) _ (by omega) hpl) ?_;apply Y;simp(disch:=omega)[aH,aG];apply Z;apply aD;simp [aJ,Ck,c1]
theorem aCx(l:List PI)(p:PI)(σ:List (List D))(hl:l.length<=999999)(hs:Sorted nP l):Ct prog 188 [.xs 2 (l.map cR),cR p] σ (fun r σ'=>r= .xs 2 ((eO nP l p).map cR)/\σ'=σ):=
  (aIb l p σ hl hs).trim fun r σ' ⟨hr,J,hs⟩=>⟨σ,J,hs,rfl,by rw [hr];exact aUc _ _,fun n cs h=> .inl h,hr,rfl⟩
theorem wX(l:List PI)(rest:List D)(i:Nat)(h:i<l.length):At false 1 ((l.flatMap cP++rest).drop (i * 2+1))=some (D.int l[i].value):=Xb (f:=cP) (k:=2) (fun _=>rfl) l rest i 1 h (by decide)
theorem Hc(l:List PI)(σ:List (List D))(hl:l.length<=999999):Ct prog 108 [.sl false (l.map cR)] σ (fun r σ'=>r= .xs 2 ((iB nP l).map cR)/\σ'=σ):=by
  refine zf func108 ?_;refine zr q29_3 fun _ _ Z=>?_;simp(disch:=omega);apply Z;refine zr q29_3 fun _ _ Z=>?_;simp(disch:=omega);apply Z;apply aF;refine zr q29_3 fun _ _ Z=>?_;simp(disch:=omega);and_intros<;>(try omega);apply Z;apply aR;refine zk [2,3,6,7,8] ?_;refine Dt 3 2 (by simp <;> rfl) ?_;refine bA (fun(k:Nat)=> [(8,.d (.v (.int .i64 (k:Int)))),(3,.d (.xs 2 ((iB nP (l.take k)).map cR)))]) [3,5,8,9,10,11,12,13,14,15] (fun(k:Nat)=>k<=l.length) (fun(k:Nat)=>l.length - k) (0) (by simp <;> rfl) ?_ ?_ ?_
  . simp [iB]
  . simp
  rintro k hk;simp only [aQ,aP];have hol:=iC nP (l.take k);simp only [bG] at hol;refine zr q29_3 fun _ _ Z=>?_;simp(disch:=omega);apply Z;apply aF;refine zI ?_ ?_<;>intro c1<;>try simp at c1
  . apply kB
    refine zr q29_3 fun _ _ Z=>?_;simp(disch:=omega);and_intros<;>(try omega);apply Z;refine zt q29_3 fun _ _ Z=>?_;refine zs 2 fun _ Y=>?_;simp(disch:=omega);apply Y;refine aE fun _ Y=>?_;simp(disch:=omega);refine bS (aCx (iB nP (l.take k)) l[k] _ (by omega) (fJ nP _)) ?_;apply Y;simp(disch:=omega);apply Z;apply zB;refine zk [2,3,6,7,8] ?_;refine zt q29_3 fun _ _ Z=>?_;simp(disch:=omega);and_intros<;>(try omega);apply Z;refine zq (k+1) ?_ ?_ ?_
    . omega
    . try dsimp only
      omega
    simp(disch:=omega)[Kl]
  apply zE;refine zr q29_3 fun _ _ Z=>?_;simp(disch:=omega);apply Z;apply aD;simp [aJ];rw [bZ (by omega)]
theorem aIh(l:List PI)(c:ByteArray)(σ:List (List D))(hl:l.length<=999999):Ct prog 239 [.sl false (l.map cR),D.str c] σ (fun r σ'=>(∃v:Int,r= .tup [D.int v,.bool (Jt nP (iB nP l) c)])/\∃J,σ'=σ++J):=by
  refine zf func239 ?_;have hol:=iC nP l;refine zr q29_4 fun _ _ Z=>?_;simp(disch:=omega)[aH,aG,wX];apply Z;refine zr q29_4 fun _ _ Z=>?_;refine zs 1 fun _ Y=>?_;simp(disch:=omega)[aH,aG,wX];apply Y;refine aE fun _ Y=>?_;simp(disch:=omega)[aH,aG,wX];refine bS (Hc l _ hl) ?_;apply Y;simp(disch:=omega)[aH,aG,wX];apply Z;apply aF;refine iQ 6 2 rfl (by decide) fun cap rest hcap hcm hrest hk0 hes=>?_;subst hrest;simp only [bU] at hcap |-;rw [cW (f:=cP) (fun _=>rfl)];refine zr q29_4 fun _ _ Z=>?_;refine zs 2 fun _ Y=>?_;simp(disch:=omega)[aH,aG,wX];apply Y;refine aE fun _ Y=>?_;simp(disch:=omega)[aH,aG,wX];refine bS (Ru σ.length cap (iB nP l) (List.replicate ((cap - (iB nP l).length) * 2) .any) c _ (by omega) (by simp [aH]) (fJ nP l)) ?_;apply Y;simp(disch:=omega)[aH,aG,wX];apply Z;refine zk [4,5,6,7,8] ?_;refine zr q29_4 fun _ _ Z=>?_;simp(disch:=omega)[aH,aG,wX];apply Z;refine zI ?_ ?_<;>intro c1<;>try simp at c1
  . have hlt := Bf nP c1
    refine zr q29_4 fun _ _ Z=>?_;simp(disch:=omega)[aH,aG,wX];and_intros<;>(try omega);apply Z;apply aD;simp [aJ,c1]
  apply zA;refine zr q29_4 fun _ _ Z=>?_;simp(disch:=omega)[aH,aG,wX];apply Z;refine zr q29_4 fun _ _ Z=>?_;simp(disch:=omega)[aH,aG,wX];apply Z;apply aD;simp [aJ,c1]
theorem aCw(l:List PI)(c:ByteArray)(σ:List (List D))(hl:l.length<=999999)(hs:Sorted nP l):Ct prog 239 [.sl false (l.map cR),D.str c] σ (fun r σ'=>(∃v:Int,r= .tup [D.int v,.bool (mG nP l c)])/\σ'=σ):=
  (aIh l c σ hl).trim fun r σ' ⟨⟨v,hr⟩,J,hs'⟩=>⟨σ,J,hs',rfl,by rw [hr];exact Sc.tup fun d hd=>by simp at hd;rcases hd with rfl | rfl <;> exact Sc.v _,fun n cs h=> .inl h,⟨v,by rw [hr,qK nP hs,Iy nP hs]⟩,rfl⟩
theorem aH9(l:List PI)(c:ByteArray)(v:Int)(σ:List (List D))(hl:l.length<=99999):Ct prog 183 [.sl false (l.map cR),D.str c,D.int v] σ (fun r σ'=>r= .xs 2 ((eO nP (iB nP l) ⟨c,v⟩).map cR)/\σ'=σ):=by
  refine zf func183 ?_;have hol:=iC nP l;refine zr ⟨[6,9,10,12],[],[],[],[]⟩ fun _ _ Z=>?_;simp;apply Z;refine zr ⟨[6,9,10,12],[],[],[],[]⟩ fun _ _ Z=>?_;refine zs 1 fun _ Y=>?_;simp;apply Y;refine aE fun _ Y=>?_;simp;refine bS (Hc l _ (by omega)) ?_;apply Y;refine zs 3 fun _ Y=>?_;simp;apply Y;refine aE fun _ Y=>?_;simp;refine bS (aCx (iB nP l) ⟨c,v⟩ _ (by omega) (fJ nP l)) ?_;apply Y;simp;apply Z;apply aD;simp [aJ]
theorem aQ4(l:List PI)(p:PI->Bool)(f:FuncId)(caps:List D)(σ:List (List D))(hl:l.length<=99999)(hcp:∀d∈caps,d.plain=true)(hcs:caps.map D.strip=caps)(hp:∀x τ,Ct prog f (cR x::caps) τ (fun r τ'=>r= .bool (p x)/\τ'=τ)):Ct prog 261 [.sl false (l.map cR),.clo (.func f) [] caps] σ (fun r σ'=>r= .xs 2 (((iB nP l).filter fun x=> !p x).map cR)/\σ'=σ):=by
  refine zf func261 ?_;have hol:=iC nP l;refine zr ⟨[4,7,8],[],[],[],[]⟩ fun _ _ Z=>?_;simp;apply Z;refine zr ⟨[4,7,8],[],[],[],[]⟩ fun _ _ Z=>?_;refine zs 1 fun _ Y=>?_;simp;apply Y;refine aE fun _ Y=>?_;simp;refine bS (Hc l _ (by omega)) ?_;apply Y;refine zs 1 fun _ Y=>?_;simp;apply Y;refine aE fun _ Y=>?_;simp;refine bS (Za (iB nP l) p f caps _ (by omega) hcp hcs hp) ?_;apply Y;simp;apply Z;apply aD;simp [aJ]
theorem aG9(x:PI)(c:ByteArray)(σ:List (List D))  :Ct prog 262 [cR x,.adr [D.str c]] σ (fun r σ'=>r= .bool (decide (x.name=c))/\σ'=σ):=by
  refine zf func262 ?_;refine aZ fun _ _ Z=>?_;simp;apply Z;refine aZ fun _ _ Z=>?_;simp;apply Z;apply aD;simp[aJ]
theorem aGy(l:List PI)(c:ByteArray)(σ:List (List D))(hl:l.length<=99999):Ct prog 240 [.sl false (l.map cR),D.str c] σ (fun r σ'=>r= .xs 2 ((lP nP (iB nP l) c).map cR)/\σ'=σ):=by
  refine zf func240 ?_;refine zr ⟨[4],[3],[],[],[]⟩ fun _ _ Z=>?_;simp;apply Z;refine zr ⟨[4],[3],[],[],[]⟩ fun _ _ Z=>?_;refine zs 2 fun _ Y=>?_;simp;and_intros<;>(try omega);apply Y;refine aE fun _ Y=>?_;simp;refine bS (aQ4 l (fun x=>decide (x.name=c)) 262 [.adr [D.str c]] _ hl (by simp) (by simp) (fun x τ=>aG9 x c τ)) ?_;apply Y;simp;apply Z;apply aD;simp [aJ,lP]
theorem Cl(l:List PI)(c:ByteArray)(v:Int)(σ:List (List D))(hl:l.length<=99999)(hs:Sorted nP l):Ct prog 183 [.sl false (l.map cR),D.str c,D.int v] σ (fun r σ'=>r= .sl false ((eO nP l ⟨c,v⟩).map cR)/\σ'=σ):=
  (aH9 l c v σ hl).freeze fun r σ' h=>by rw [qK nP hs] at h;exact h
theorem aId(l:List PI)(c:ByteArray)(σ:List (List D))(hl:l.length<=99999)(hs:Sorted nP l):Ct prog 240 [.sl false (l.map cR),D.str c] σ (fun r σ'=>r= .sl false ((lP nP l c).map cR)/\σ'=σ):=
  (aGy l c σ hl).freeze fun r σ' h=>by rw [qK nP hs] at h;exact h
end Go.Proofs.YtbgfljpnhhdkoaaGreat
