import Derived.Test.YtbgfljpnhhdkoaaGreatWkAr4
set_option linter.all false
set_option maxRecDepth 20000
set_option maxHeartbeats 8000000
open Go.Proofs.Tryz
namespace Go.Proofs.YtbgfljpnhhdkoaaGreat
open Go Go.Vm
variable {a b c:ByteArray}
def dM(a b:ByteArray):Bool:=Op.bytesLess a.toList b.toList
theorem Nb:∀a:List UInt8,Op.bytesLess a a=false
  | []=>rfl
  | a::x=>by simp [Op.bytesLess,Nb x]
theorem aUj {a b:UInt8} :a<b↔a.toNat<b.toNat:=Iff.rfl
theorem Ur:∀a b c:List UInt8,Op.bytesLess a b=true->Op.bytesLess b c=true->Op.bytesLess a c=true
  | [], [],_,h,_=>by simp [Op.bytesLess] at h
  | _::_, [],_,h,_=>by simp [Op.bytesLess] at h
  | [],_::_, [],_,h=>by simp [Op.bytesLess] at h
  | _::_,_::_, [],_,h=>by simp [Op.bytesLess] at h
  | [],_::_,_::_,_,_=>by simp [Op.bytesLess]
  | a :: x, b :: y, c :: z, h1, h2 => by
    simp only [Op.bytesLess,xZ,gD,eZ,wX,aUj] at *;rcases h1 with h1 | ⟨rfl,h1⟩
    . rcases h2 with h2 | ⟨rfl, h2⟩
      . left;omega
      left;exact h1
    rcases h2 with h2 | ⟨rfl,h2⟩
    . left;exact h2
    right;exact⟨rfl,Ur x y z h1 h2⟩
theorem oF(a:ByteArray):dM a a=false:=Nb _
theorem sO (h1:dM a b=true)(h2:dM b c=true):dM a c=true:=Ur _ _ _ h1 h2
theorem Ut(a b:ByteArray):dM a b=true\/a=b\/dM b a=true:=by
  have h:=yB a.toList b.toList;unfold dM;cases h1:Op.bytesLess a.toList b.toList with
  | true=>left;rfl
  | false =>
    rw [h1,Eg,qI] at h;cases h2:Op.bytesLess b.toList a.toList with
    | true=>right;right;rfl
    | false=>rw [h2] at h;right;left;simpa using h
theorem Jj (h:dM a b=true):dM b a=false:=by
  cases h2:dM b a with
  | false=>rfl
  | true=>have:=sO h h2;rw [oF] at this;cases this
theorem qG (h:dM a b=true):a≠b:=by rintro rfl;rw [oF] at h;cases h
theorem Ti (h:dM a b=false)(hn:a≠b):dM b a=true:=by
  rcases Ut a b with h1 | h1 | h1
  . rw [h1] at h;cases h
  . exact absurd h1 hn
  exact h1
def Kk(a b:ByteArray):Int:=if dM a b=true then -1 else if dM b a=true then 1 else 0
theorem Ja(a b:ByteArray):Kk a b<0↔dM a b=true:=by
  unfold Kk;repeat' split
  all_goals simp_all
theorem aBi(a b:ByteArray):0<=Kk a b↔dM a b=false:=by
  have:=Ja a b;rw [<- xU,<- this];omega
theorem Nk(a b:ByteArray):Kk a b=0↔a=b:=by
  unfold Kk
  repeat' split
  . rename_i h;simp;exact qG h
  . rename_i h;simp;exact fun e=>qG h e.symm
  rename_i h1 h2;simp only [true_iff];rcases Ut a b with h | h | h
  . exact absurd h h1
  . exact h
  exact absurd h h2
section
variable {α:Type} (nm:α->ByteArray)
def kS:List α->ByteArray->Nat
  | [],_=>0
  | q::l,c=>if dM (nm q) c=true then kS l c+1 else 0
def Ks:List α->ByteArray->Bool
  | [],_=>false
  | q::l,c=>if dM (nm q) c=true then Ks l c else decide (nm q=c)
def fU:List α->α->List α
  | [],p=> [p]
  | q::l,p=>if dM (nm q) (nm p)=true then q::fU l p else if nm q=nm p then p::l else p::q::l
def Sorted(l:List α):Prop:=l.Pairwise fun a b=>dM (nm a) (nm b)=true
def iP(l:List α):List α:=l.foldl (fU nm) []
def lL(l:List α)(c:ByteArray):Bool:=l.any fun p=>decide (nm p=c)
def kP(l:List α)(c:ByteArray):List α:=l.filter fun p=> !decide (nm p=c)
theorem Ps(l:List α)(c:ByteArray):kS nm l c<=l.length:=by
  induction l with
  | nil=>exact aX _
  | cons q l ih=>unfold kS;split <;> simp <;> omega
theorem Po:∀(l:List α) (c:ByteArray) (i:Nat),i<=l.length->(∀j (h:j<l.length),j<i->dM (nm l[j]) c=true)->(∀h:i<l.length,dM (nm l[i]) c=false)->kS nm l c=i
  | [],c,i,hi,_,_=>by simp at hi;subst hi;rfl
  | q :: l, c, 0, _, _, h2 => by
    have:=h2 (by simp);simp only [xC] at this;simp [kS,this]
  | q :: l, c, i + 1, hi, h1, h2 => by
    have h0:=h1 0 (by simp) (by omega);simp only [xC] at h0;have:=Po l c i (by simpa using hi) (fun j h hj=>h1 (j+1) (by simpa using h) (by omega)) (fun h=>h2 (by simpa using h));simp [kS,h0,this]
theorem Qt:∀(l:List α) (c:ByteArray) (h:kS nm l c<l.length),Ks nm l c=decide (nm l[kS nm l c]=c)
  | [],c,h=>by simp at h
  | q :: l, c, h => by
    by_cases e:dM (nm q) c=true
    . have hp : kS nm (q :: l) c = kS nm l c + 1 := by simp [kS, e]
      have h':kS nm l c<l.length:=by rw [hp] at h;simpa using h
      have:=Qt l c h';simp only [Ks,e,aU,this,hp,Es]
    have hp:kS nm (q::l) c=0:=by simp [kS,e]
    simp only [Ks,e,bI,hp,xC];rfl
theorem Ht:∀(l:List α) (c:ByteArray),kS nm l c=l.length->Ks nm l c=false
  | [],c,_=>rfl
  | q :: l, c, h => by
    by_cases e:dM (nm q) c=true
    . have hp : kS nm (q :: l) c = kS nm l c + 1 := by simp [kS, e]
      simp only [Ks,e,aU];exact Ht l c (by rw [hp] at h;simpa using h)
    have hp:kS nm (q::l) c=0:=by simp [kS,e]
    rw [hp] at h;simp at h
theorem Ag {l:List α} (h:Ks nm l c=true):kS nm l c<l.length:=by
  have:=Ps nm l c;rcases uN (kS nm l c) l.length with h1 | h1
  . exact h1
  have:=Ht nm l c (by omega);rw [h] at this;cases this
theorem Cd:∀(l:List α) (p:α),fU nm l p=if Ks nm l (nm p)=true then l.set (kS nm l (nm p)) p else fI l (kS nm l (nm p)) p
  | [],p=>rfl
  | q :: l, p => by
    by_cases e:dM (nm q) (nm p)=true
    . have ih := Cd l p
      simp only [fU,Ks,kS,e,aU,ih];split <;> simp [fI]
    simp only [fU,Ks,kS,e,bI];by_cases e2:nm q=nm p <;> simp [e2,fI]
theorem Cq(l:List α)(p:α):(fU nm l p).length<=l.length+1:=by
  induction l with
  | nil=>simp [fU]
  | cons q l ih => unfold fU; repeat' split
                   all_goals simp
                   all_goals omega
theorem Bm {l:List α} {p x:α} (h:x∈fU nm l p):x=p\/x∈l:=by
  induction l with
  | nil=>simp [fU] at h;exact .inl h
  | cons q l ih =>
    unfold fU at h;split at h
    . rcases bM.1 h with h | h
      . exact .inr (by simp [h])
      rcases ih h with h | h
      . exact .inl h
      exact .inr (by simp [h])
    split at h
    . rcases bM.1 h with h | h
      . exact .inl h
      exact .inr (by simp [h])
    rcases bM.1 h with h | h
    . exact .inl h
    exact .inr h
theorem mH {l:List α} (h:Sorted nm l)(p:α):Sorted nm (fU nm l p):=by
  induction l with
  | nil=>simp [fU,Sorted]
  | cons q l ih =>
    have h':=iS.1 h;unfold fU;split
    . rename_i e
      refine iS.2 ⟨fun x hx=>?_,ih h'.2⟩;rcases Bm nm hx with rfl | hx
      . exact e
      exact h'.1 x hx
    rename_i e;split
    . rename_i e2
      exact iS.2 ⟨fun x hx=>by rw [<- e2];exact h'.1 x hx,h'.2⟩
    rename_i e2;have e3:=Ti (by simpa using e) e2;refine iS.2 ⟨fun x hx=>?_,h⟩;rcases bM.1 hx with rfl | hx
    . exact e3
    exact sO e3 (h'.1 x hx)
theorem wQ(l:List α)(p:α):iP nm (l++ [p])=fU nm (iP nm l) p:=by simp [iP,jD]
theorem Kw(l:List α)(k:Nat)(h:k<l.length):iP nm (l.take (k+1))=fU nm (iP nm (l.take k)) l[k]:=by rw [bR l k h,wQ]
theorem gI(l:List α):Sorted nm (iP nm l):=by
  induction l using oW with
  | h0=>simp [iP,Sorted]
  | h1 l x ih=>rw [wQ];exact mH nm ih x
theorem iX(l:List α):(iP nm l).length<=l.length:=by
  induction l using oW with
  | h0=>simp [iP]
  | h1 l x ih=>rw [wQ];have:=Cq nm (iP nm l) x;simp;omega
theorem aCq {l:List α} {p:α} (h:∀x∈l,dM (nm x) (nm p)=true):fU nm l p=l++ [p]:=by
  induction l with
  | nil=>rfl
  | cons q l ih =>
    have:=h q (by simp);simp only [fU,this,aU,aQ];rw [ih fun x hx=>h x (by simp [hx])]
theorem qV {l:List α} (h:Sorted nm l):iP nm l=l:=by
  induction l using oW with
  | h0=>rfl
  | h1 l x ih =>
    have h':=Fe.1 h;rw [wQ,ih h'.1,aCq nm fun y hy=>h'.2.2 y hy x (by simp)]
theorem Ho {l:List α} (h:Sorted nm l)(c:ByteArray):Ks nm l c=lL nm l c:=by
  induction l with
  | nil=>rfl
  | cons q l ih =>
    have h':=iS.1 h;unfold Ks lL;simp only [List.any_cons];split
    . rename_i e
      rw [ih h'.2];have:¬nm q=c:=qG e;simp [this,lL]
    rename_i e;have:(l.any fun p=>decide (nm p=c))=false:=by
      rw [qE];intro x hx;simp only [eZ];rintro rfl;have:=h'.1 x hx;exact e this
    rw [this,xD]
theorem tD {l:List α} (h:Sorted nm l)(c:ByteArray):Sorted nm (kP nm l c):=Fo _ h
theorem Cj(l:List α)(c:ByteArray):(kP nm l c).length<=l.length:=kB _ _
theorem Lb {l:List α} (c:ByteArray):((kP nm l c).length=l.length)↔lL nm l c=false:=by
  unfold kP lL;rw [List.length_filter_eq_length_iff,qE];simp
theorem xS(l:List α)(c:ByteArray)(k:Nat)(h:k<l.length):kP nm (l.take (k+1)) c=kP nm (l.take k) c++if nm l[k]=c then [] else [l[k]]:=by
  unfold kP;rw [bR l k h,fS,gN];by_cases e:nm l[k]=c <;> simp [e]
theorem aQa {l:List α} {m:Nat} (hs:Sorted nm l)(hm:m<l.length)(h:dM (nm l[m]) c=true):∀j (h:j<l.length),j<m+1->dM (nm l[j]) c=true:=fun j hj hjm=>by
  rcases uN j m with h1 | h1
  . exact sO (pW.1 hs j m hj hm h1) h
  obtain rfl:j=m:=by omega
  exact h
theorem aQh {l:List α} {m:Nat} (hs:Sorted nm l)(hm:m<l.length)(h:dM (nm l[m]) c=false):∀j (h:j<l.length),m<=j->dM (nm l[j]) c=false:=fun j hj hjm=>by
  rcases uN m j with h1 | h1
  . have := pW.1 hs m j hm hj h1
    cases e:dM (nm l[j]) c with
    | false=>rfl
    | true=>rw [sO this e] at h;cases h
  obtain rfl:j=m:=by omega
  exact h
def mD(p:α)(s:List α×Bool)(x:α):List α×Bool:=
  let s1:=if s.2=false/\dM (nm x) (nm p)=false then(s.1++ [p],true)else s
  if nm x=nm p then s1 else(s1.1++ [x],s1.2)
def rE(l:List α)(p:α):List α×Bool:=l.foldl (mD nm p) ([],false)
def aDx(s:List α×Bool)(p:α):List α:=if s.2=true then s.1 else s.1++ [p]
theorem pE(l:List α)(p:α)(k:Nat)(h:k<l.length):rE nm (l.take (k+1)) p=mD nm p (rE nm (l.take k) p) l[k]:=by
  unfold rE;rw [bR l k h,jD];rfl
theorem aDe(l:List α)(p:α):(rE nm l p).1.length<=l.length+(if(rE nm l p).2=true then 1 else 0):=by
  induction l using oW with
  | h0=>simp [rE]
  | h1 l x ih =>
    have e:rE nm (l++ [x]) p=mD nm p (rE nm l p) x:=by unfold rE;rw [jD];rfl
    rw [e];generalize rE nm l p=s at ih;obtain⟨o,b⟩:=s;unfold mD;cases b <;> by_cases e1:dM (nm x) (nm p)=false <;> by_cases e2:nm x=nm p <;> simp_all <;> omega
theorem Ig(p:α):∀(l o:List α),(l.foldl (mD nm p) (o,true))=(o++kP nm l (nm p),true)
  | [],o=>by simp [kP]
  | x :: l, o => by
    rw [dQ];have e:mD nm p (o,true) x=(if nm x=nm p then o else o++ [x],true):=by
      unfold mD;simp;split <;> rfl
    rw [e,Ig p l];unfold kP;by_cases e2:nm x=nm p <;> simp [e2]
theorem Gw (p : α) : ∀ (l o : List α), Sorted nm l -> aDx (l.foldl (mD nm p) (o, false)) p = o ++ fU nm l p
  | [],o,_=>by simp [aDx,fU]
  | x :: l, o, h => by
    have h':=iS.1 h;rw [dQ];by_cases e1:dM (nm x) (nm p)=true
    . have e : mD nm p (o, false) x = (o ++ [x], false) := by
        unfold mD;simp [e1,qG e1]
      rw [e,Gw p l _ h'.2];simp [fU,e1]
    have e1':dM (nm x) (nm p)=false:=by simpa using e1
    have hid:∀y∈l,nm y≠nm p:=fun y hy hp=>e1 (by have:=h'.1 y hy;rw [hp] at this;exact this);have hdel:kP nm l (nm p)=l:=by
      unfold kP;rw [nC];intro y hy;simp [hid y hy]
    have e:mD nm p (o,false) x=(if nm x=nm p then o++ [p] else o++ [p]++ [x],true):=by
      unfold mD;simp [e1'];split <;> rfl
    rw [e,Ig,hdel];by_cases e2:nm x=nm p <;> simp [aDx,fU,e1,e2,oF]
theorem Pd {l:List α} (h:Sorted nm l)(p:α):aDx (rE nm l p) p=fU nm l p:=by
  have:=Gw nm p l [] h;simpa [rE] using this
def rB(out:List α)(c:ByteArray):Bool:=match out.getLast? with | none=>true | some q=>dM (nm q) c
def Lq(l out:List α):Option α:=((iP nm l).filter fun p=>rB nm out (nm p)).head?
theorem Wa {g:ByteArray->Bool} (hup:∀a b,dM a b=true->g a=true->g b=true):∀(l:List α) (p:α),(fU nm l p).filter (fun q=>g (nm q))=if g (nm p)=true then fU nm (l.filter fun q=>g (nm q)) p else l.filter fun q=>g (nm q)
  | [],p=>by by_cases e:g (nm p)=true <;> simp [fU,e]
  | q :: l, p => by
    have ih:=Wa hup l p;by_cases e:dM (nm q) (nm p)=true
    . simp only [fU, e, aU, gN, ih]
      by_cases e1:g (nm q)=true <;> by_cases e2:g (nm p)=true <;> simp [e1,e2,fU,e]
    by_cases e3:nm q=nm p
    . simp only [fU, e, e3, aU, bI, gN]
      by_cases e2:g (nm p)=true
      . simp [e2,fU,e3,oF]
      simp [e2,oF]
    simp only [fU,e,e3,bI,gN];have e4:=Ti (by simpa using e) e3;by_cases e2:g (nm p)=true
    . have e1 := hup _ _ e4 e2
      simp [e1,e2,fU,e,e3]
    by_cases e1:g (nm q)=true <;> simp [e1,e2,fU,e,e3]
theorem aIr(out:List α):∀a b,dM a b=true->rB nm out a=true->rB nm out b=true:=by
  intro a b h1 h2;unfold rB at *;split
  . rfl
  rename_i q hq;rw [hq] at h2;exact sO h2 h1
theorem aCn(l out:List α)(k:Nat)(h:k<l.length):Lq nm (l.take (k+1)) out=if rB nm out (nm l[k])=true then(match Lq nm (l.take k) out with | none=>some l[k] | some q=>if dM (nm q) (nm l[k])=true then some q else some l[k])else Lq nm (l.take k) out:=by
  unfold Lq;rw [Kw nm l k h,Wa nm (aIr nm out)];split
  . cases (iP nm (l.take k)).filter fun p => rB nm out (nm p) with
    | nil=>rfl
    | cons q r =>
      simp only [fU,List.head?_cons]
      repeat' split
      all_goals rfl
  rfl
theorem aRp(l out:List α):Lq nm (l.take 0) out=none:=by simp [Lq,iP]
theorem aJz (l : List α) (k : Nat) (hk : k <= (iP nm l).length) : Lq nm l ((iP nm l).take k) = (iP nm l)[k]? := by
  have hs := gI nm l;unfold Lq;generalize iP nm l = S at *;have hd : (S.filter fun p => rB nm (S.take k) (nm p)) = S.drop k := by
    cases k with
    | zero=>simp [rB]
    | succ k =>
      have hl:(S.take (k+1)).getLast?=some S[k]:=by rw [bR S k (by omega),List.getLast?_concat]
      have hg:∀p,rB nm (S.take (k+1)) (nm p)=dM (nm S[k]) (nm p):=fun p=>by unfold rB;rw [hl]
      simp only [hg];have hsplit:∀q:α->Bool,S.filter q=(S.take (k+1)).filter q++(S.drop (k+1)).filter q:=fun q=>by rw [<- fS,fB]
      rw [hsplit];have hp:(S.take (k+1)++S.drop (k+1)).Pairwise fun a b=>dM (nm a) (nm b)=true:=by rw [fB];exact hs
      have h3:=Fe.1 hp;have hmem:S[k]∈S.take (k+1):=by rw [bR S k (by omega)];exact yG _ (fO.2 rfl)
      have f2:(S.drop (k+1)).filter (fun p=>dM (nm S[k]) (nm p))=S.drop (k+1):=by
        rw [nC];exact fun x hx=>h3.2.2 _ hmem x hx
      have f1:(S.take (k+1)).filter (fun p=>dM (nm S[k]) (nm p))= []:=by
        rw [rN];intro x hx;rw [bR S k (by omega)] at hx h3;rcases bN.1 hx with hx | hx
        . have := (Fe.1 h3.1).2.2 x hx S[k] (by simp)
          rw [Jj this];simp
        simp at hx;subst hx;rw [oF];simp
      rw [f1,f2,aP]
  rw [hd,pY]
end
abbrev nA:AT->ByteArray:=AT.name
abbrev nP:PI->ByteArray:=PI.name
theorem dX(a b:Nat):Int.fdiv ((a:Int)+(b:Int)) (2 ^ min 1 IntKind.u64.bits)=(((a+b) / 2:Nat):Int):=by
  have e:(2:Int) ^ min 1 IntKind.u64.bits=2:=by decide
  rw [e,Int.fdiv_eq_ediv_of_nonneg _ (by omega)];omega
theorem aNf:IntKind.u64.min=0:=rfl
theorem aPl:IntKind.u64.max=18446744073709551615:=by decide
theorem dW(n:Int):inR .u64 n=(0<=n/\n<=18446744073709551615):=by
  show(IntKind.u64.min<=n/\n<=IntKind.u64.max)=_
  rw [aNf,aPl]
theorem Vh(s:ByteArray)(σ:List (List D))  :Ct prog 258 [D.str s] σ (fun r σ'=>r= .bool false/\σ'=σ):=by
  refine zf func258 ?_;refine bC fun _ _ Z=>?_;simp;apply Z;refine bC fun _ _ Z=>?_;simp;apply Z;apply aC;simp [aG]
theorem Ic(a b:ByteArray)(σ:List (List D))  :Ct prog 233 [D.str a,D.str b] σ (fun r σ'=>r= .int (Kk a b)/\σ'=σ):=by
  refine zf func233 ?_;refine bC fun _ _ Z=>?_;simp;apply Z;refine bC fun _ _ Z=>?_;refine zs 1 fun _ Y=>?_;simp;apply Y;refine aF fun _ Y=>?_;simp;refine cN (Vh a _) ?_;apply Y;simp;apply Z;refine bC fun _ _ Z=>?_;refine zs 1 fun _ Y=>?_;simp;apply Y;refine aF fun _ Y=>?_;simp;refine cN (Vh b _) ?_;apply Y;simp;apply Z;apply aE;refine bC fun _ _ Z=>?_;simp;apply Z;refine zI ?_ ?_<;>intro c1<;>try simp at c1
  apply zA;apply aE;refine bC fun _ _ Z=>?_;simp;apply Z;refine zI ?_ ?_<;>intro c2<;>try simp at c2
  apply zA;apply aE;refine bC fun _ _ Z=>?_;simp;apply Z;refine zI ?_ ?_<;>intro c3<;>try simp at c3
  . refine zk [0,1,4] ?_
    refine bC fun _ _ Z=>?_;simp;apply Z;apply aC;simp [aG,Kk,dM, *]
  apply zA;apply aE;refine zk [0,1,4] ?_;refine bC fun _ _ Z=>?_;simp;apply Z;refine zI ?_ ?_<;>intro c4<;>try simp at c4
  . refine bC fun _ _ Z=>?_
    simp;apply Z;apply aC;simp [aG,Kk,dM, *]
  apply zA;refine bC fun _ _ Z=>?_;simp;apply Z;apply aC;simp [aG,Kk,dM, *]
theorem aA9(x:AT)(s:ByteArray)(σ:List (List D))  :Ct prog 232 [cZ x,D.str s] σ (fun r σ'=>r= .int (Kk x.name s)/\σ'=σ):=by
  refine zf func232 ?_;refine bC fun _ _ Z=>?_;simp;apply Z;refine bC fun _ _ Z=>?_;refine zs 3 fun _ Y=>?_;simp;apply Y;refine aF fun _ Y=>?_;simp;refine cN (Ic x.name s _) ?_;apply Y;simp;apply Z;apply aC;simp [aG]
@[simp] abbrev q29_1:Cfg:=⟨[],[],[],[13,27,43],[]⟩
theorem aRh (N cap : Nat) (l : List AT) (rest : List D) (c : ByteArray) (σ : List (List D)) (hl : l.length <= 1000000) (hN : σ[N]? = some (l.flatMap cA ++ rest)) (hs : Sorted nA l) : Ct prog 231 [.slo N 0 l.length cap, D.str c, .clo (.func 232) [] []] σ (fun r σ' => r = .tup [.int ((kS nA l c : Nat) : Int), .bool (Ks nA l c)] /\ σ' = σ) := by
  refine zf func231 ?_;refine zr q29_1 fun _ _ Z=>?_;simp(disch:=omega)[hN,dX,dW];apply Z;refine zr q29_1 fun _ _ Z=>?_;simp(disch:=omega)[hN,dX,dW];and_intros<;>(try omega);apply Z;refine zr q29_1 fun _ _ Z=>?_;simp(disch:=omega)[hN,dX,dW];apply Z;apply Ry;refine zk [0,1,2,6,7,8,9,10] ?_;refine aY (fun(s:Nat×Nat)=> [(9,.d (.v (.int .i64 (s.1:Int)))),(10,.d (.v (.int .i64 (s.2:Int)))),(11,.d (.any))]) [9,10,11,15,16,17,18,19,20,21,22,23,24,25,26,27,28,29,30,31,32,33,34] (fun(s:Nat×Nat)=>s.1<=s.2/\s.2<=l.length/\(∀j (h:j<l.length),j<s.1->dM l[j].name c=true)/\(∀j (h:j<l.length),s.2<=j->dM l[j].name c=false)) (fun(s:Nat×Nat)=>s.2 - s.1) ((0,l.length)) (by simp <;> rfl) ?_ ?_ ?_
  . simp
  . exact⟨by omega,by omega,fun j h h2=>absurd h2 (by simp),fun j h h2=>absurd h2 (by simp;omega)⟩
  rintro⟨lo,hi⟩ ⟨h1,h2,h3,h4⟩;simp only [aQ,aP];dsimp only at h1 h2 h3 h4;have hmid:lo<hi->(lo+hi) / 2<hi:=fun h=>by omega
  apply aE;refine zr q29_1 fun _ _ Z=>?_;simp(disch:=omega)[hN,dX,dW];apply Z;refine zI ?_ ?_<;>intro c1<;>try simp at c1
  . apply zA
    apply aR;refine zk [0,1,2,6,7,8,9,10,11] ?_;refine zr q29_1 fun _ _ Z=>?_;simp(disch:=omega)[hN,dX,dW];and_intros<;>(try omega);apply Z;refine zk [0,1,2,6,7,8,9,10,11] ?_;refine zr q29_1 fun _ _ Z=>?_;refine zs 6 fun _ Y=>?_;simp(disch:=omega)[hN,dX,dW];and_intros<;>(try omega);apply Y;refine aF fun _ Y=>?_;simp(disch:=omega)[hN,dX,dW];refine cN (aA9 l[(lo+hi) / 2] c _) ?_;apply Y;simp(disch:=omega)[hN,dX,dW];apply Z;refine zI ?_ ?_<;>intro c2<;>try simp at c2
    . refine zk [0,1,2,6,7,8,9,10,11] ?_
      refine zt q29_1 fun _ _ Z=>?_;simp(disch:=omega)[hN,dX,dW];and_intros<;>(try omega);apply Z;apply kT;refine zq (((lo+hi) / 2+1,hi)) ?_ ?_ ?_
      . exact⟨by dsimp only;omega,by dsimp only;omega,aQa nA hs (by omega) (by simpa [Ja] using c2),h4⟩
      . try dsimp only
        omega
      simp(disch:=omega)[hN,dX,dW]
    refine zk [0,1,2,6,7,8,9,10,11] ?_;refine zt q29_1 fun _ _ Z=>?_;simp(disch:=omega)[hN,dX,dW];apply Z;apply kT;refine zq ((lo,(lo+hi) / 2)) ?_ ?_ ?_
    . exact⟨by dsimp only;omega,by dsimp only;omega,h3,aQh nA hs (by omega) ((aBi _ _).1 (by omega))⟩
    . try dsimp only
      omega
    simp(disch:=omega)[hN,dX,dW]
  obtain rfl:lo=hi:=by omega
  have hpos:kS nA l c=lo:=Po nA l c lo h2 h3 (fun h=>h4 lo h (aX _));apply zE;refine zk [0,1,2,6,7,8,9] ?_;refine mE q29_1 fun all hall _ Z=>?_;have ga4:aO all 4=some 39:=hall 4;refine zs 5 fun _ Y=>?_;simp(disch:=omega)[hN,dX,dW,ga4];apply Y;refine zb 39 ?_ ?_<;>intro g3<;>try simp at g3
  . refine zs 6 fun _ Y=>?_
    simp(disch:=omega)[hN,dX,dW,ga4];and_intros<;>(try omega);apply Y;refine zg ga4 fun _ Y=>?_;simp(disch:=omega)[hN,dX,dW,ga4];refine cN (aA9 l[lo] c _) ?_;apply Y;simp(disch:=omega)[hN,dX,dW,ga4];apply Z;apply aC;simp [aG,hpos,Qt, *];exact Nk _ _
  refine zs 8 fun _ Y=>?_;simp(disch:=omega)[hN,dX,dW,ga4];and_intros<;>(try omega);apply Y;simp(disch:=omega)[hN,dX,dW,ga4];apply Z;apply aC;simp [aG,hpos, *];exact Ht _ _ _ (by omega)
theorem Ru(N cap:Nat)(l:List AT)(rest:List D)(c:ByteArray)(σ:List (List D))(hl:l.length<=1000000)(hN:σ[N]?=some (l.flatMap cA++rest))(hs:Sorted nA l):Ct prog 198 [.slo N 0 l.length cap,D.str c] σ (fun r σ'=>r= .tup [.int ((kS nA l c:Nat):Int),.bool (Ks nA l c)]/\σ'=σ):=by
  refine zf func198 ?_;refine bC fun _ _ Z=>?_;simp[hN];apply Z;refine bC fun _ _ Z=>?_;refine zs 2 fun _ Y=>?_;simp[hN];apply Y;refine aF fun _ Y=>?_;simp[hN];refine cN (aRh N cap l rest c _ hl hN hs) ?_;apply Y;simp[hN];apply Z;apply aC;simp [aG]
@[simp] abbrev q29_2:Cfg:=⟨[4,19,20,24],[],[],[18],[]⟩
theorem aLn(l:List AT)(p:AT)(σ:List (List D))(hl:l.length<=999999)(hs:Sorted nA l):Ct prog 187 [.xs 2 (l.map cZ),cZ p] σ (fun r σ'=>r= .xs 2 ((fU nA l p).map cZ)/\∃J,σ'=σ++J):=by
  refine zf func187 ?_;refine iU 0 2 rfl (by decide) fun cap rest hcap hcm hrest hk0 hes=>?_;subst hrest;simp only [bQ] at hcap |-;rw [cQ (f:=cA) (fun _=>rfl)];have hpl:=Ps nA l p.name;refine zr q29_2 fun _ _ Z=>?_;simp(disch:=omega)[aK,aH];apply Z;refine zr q29_2 fun _ _ Z=>?_;refine zs 3 fun _ Y=>?_;simp(disch:=omega)[aK,aH];apply Y;refine aF fun _ Y=>?_;simp(disch:=omega)[aK,aH];refine cN (Ru σ.length cap l (List.replicate ((cap - l.length) * 2) .any) p.name _ (by omega) (by simp [aK]) hs) ?_;apply Y;simp(disch:=omega)[aK,aH];apply Z;apply aE;refine zr q29_2 fun _ _ Z=>?_;simp(disch:=omega)[aK,aH];apply Z;refine zI ?_ ?_<;>intro c1<;>try simp at c1
  . have hlt := Ag nA c1
    refine zk [0,3,4,5] ?_;refine zr q29_2 fun _ _ Z=>?_;simp(disch:=omega)[aK,aH];and_intros<;>(try omega);apply Z;refine zr q29_2 fun _ _ Z=>?_;simp(disch:=omega)[aK,aH];apply Z;refine fL 4 2 σ.length l.length cap ((l.set (kS nA l p.name) p).map cZ) ((l.set (kS nA l p.name) p).flatMap cA++List.replicate ((cap - l.length) * 2) .any) (by simp <;> rfl) (by simp [aK]) (by omega) (by simp only [bA,dE (f:=cA) (k:=2) (fun _=>rfl),cR,cE];omega) (by simp) (lZ (d:=cZ) (fun _=>⟨rfl,rfl⟩) _) (by rw [cQ (f:=cA) (fun _=>rfl)];exact dL _ _) ?_;apply aC;simp [aG,Cd,c1]
  apply zA;refine fL 0 2 σ.length l.length cap (l.map cZ) (l.flatMap cA++List.replicate ((cap - l.length) * 2) .any) (by simp <;> rfl) (by simp [aK]) (by omega) (by simp only [bA,dE (f:=cA) (k:=2) (fun _=>rfl),cR,cE];omega) (by simp) (lZ (d:=cZ) (fun _=>⟨rfl,rfl⟩) _) (by rw [cQ (f:=cA) (fun _=>rfl)];exact dL _ _) ?_;refine zk [0,3,4,5] ?_;refine zr q29_2 fun _ _ Z=>?_;refine zs 4 fun _ Y=>?_;simp(disch:=omega)[aK,aH];and_intros<;>(try omega);apply Y;refine aF fun _ Y=>?_;simp(disch:=omega)[aK,aH];refine cN (aN3 l p (kS nA l p.name) _ (by omega) hpl) ?_;apply Y;simp(disch:=omega)[aK,aH];apply Z;apply aC;simp [aG,Cd,c1]
theorem aAd(l:List AT)(p:AT)(σ:List (List D))(hl:l.length<=999999)(hs:Sorted nA l):Ct prog 187 [.xs 2 (l.map cZ),cZ p] σ (fun r σ'=>r= .xs 2 ((fU nA l p).map cZ)/\σ'=σ):=
  (aLn l p σ hl hs).trim fun r σ' ⟨hr,J,hs⟩=>⟨σ,J,hs,rfl,by rw [hr];exact aRm _ _,fun n cs h=> .inl h,hr,rfl⟩
theorem vY(l:List AT)(rest:List D)(i:Nat)(h:i<l.length):yX false 1 ((l.flatMap cA++rest).drop (i * 2+1))=some (D.str l[i].value):=Vu (f:=cA) (k:=2) (fun _=>rfl) l rest i 1 h (by decide)
@[simp] abbrev q29_3:Cfg:=⟨[2,3,12,14,16],[],[],[],[]⟩
theorem Dc(l:List AT)(σ:List (List D))(hl:l.length<=999999):Ct prog 107 [.sl false (l.map cZ)] σ (fun r σ'=>r= .xs 2 ((iP nA l).map cZ)/\σ'=σ):=by
  refine zf func107 ?_;refine zr q29_3 fun _ _ Z=>?_;simp(disch:=omega);apply Z;refine zr q29_3 fun _ _ Z=>?_;simp(disch:=omega);apply Z;apply aE;refine zr q29_3 fun _ _ Z=>?_;simp(disch:=omega);and_intros<;>(try omega);apply Z;apply aR;refine zk [2,3,6,7,8] ?_;refine Ii 3 2 (by simp <;> rfl) ?_;refine aY (fun(k:Nat)=> [(8,.d (.v (.int .i64 (k:Int)))),(3,.d (.xs 2 ((iP nA (l.take k)).map cZ)))]) [3,5,8,9,10,11,12,13,14,15] (fun(k:Nat)=>k<=l.length) (fun(k:Nat)=>l.length - k) (0) (by simp <;> rfl) ?_ ?_ ?_
  . simp [iP]
  . simp
  rintro k hk;simp only [aQ,aP];have hol:=iX nA (l.take k);simp only [bF] at hol;refine zr q29_3 fun _ _ Z=>?_;simp(disch:=omega);apply Z;apply aE;refine zI ?_ ?_<;>intro c1<;>try simp at c1
  . apply kO
    refine zr q29_3 fun _ _ Z=>?_;simp(disch:=omega);and_intros<;>(try omega);apply Z;refine zt q29_3 fun _ _ Z=>?_;refine zs 2 fun _ Y=>?_;simp(disch:=omega);apply Y;refine aF fun _ Y=>?_;simp(disch:=omega);refine cN (aAd (iP nA (l.take k)) l[k] _ (by omega) (gI nA _)) ?_;apply Y;simp(disch:=omega);apply Z;apply zB;refine zk [2,3,6,7,8] ?_;refine zt q29_3 fun _ _ Z=>?_;simp(disch:=omega);and_intros<;>(try omega);apply Z;refine zq (k+1) ?_ ?_ ?_
    . omega
    . try dsimp only
      omega
    simp(disch:=omega)[Kw]
  apply zE;refine zr q29_3 fun _ _ Z=>?_;simp(disch:=omega);apply Z;apply aC;simp [aG];rw [bV (by omega)]
@[simp] abbrev q29_4:Cfg:=⟨[6,11],[],[],[21],[]⟩
theorem aG0(l:List AT)(c:ByteArray)(σ:List (List D))(hl:l.length<=999999):Ct prog 234 [.sl false (l.map cZ),D.str c] σ (fun r σ'=>(∃v:ByteArray,r= .tup [D.str v,.bool (Ks nA (iP nA l) c)])/\∃J,σ'=σ++J):=by
  refine zf func234 ?_;have hol:=iX nA l;refine zr q29_4 fun _ _ Z=>?_;simp(disch:=omega)[aK,aH,vY];apply Z;refine zr q29_4 fun _ _ Z=>?_;refine zs 1 fun _ Y=>?_;simp(disch:=omega)[aK,aH,vY];apply Y;refine aF fun _ Y=>?_;simp(disch:=omega)[aK,aH,vY];refine cN (Dc l _ hl) ?_;apply Y;simp(disch:=omega)[aK,aH,vY];apply Z;apply aE;refine iU 6 2 rfl (by decide) fun cap rest hcap hcm hrest hk0 hes=>?_;subst hrest;simp only [bQ] at hcap |-;rw [cQ (f:=cA) (fun _=>rfl)];refine zr q29_4 fun _ _ Z=>?_;refine zs 2 fun _ Y=>?_;simp(disch:=omega)[aK,aH,vY];apply Y;refine aF fun _ Y=>?_;simp(disch:=omega)[aK,aH,vY];refine cN (Ru σ.length cap (iP nA l) (List.replicate ((cap - (iP nA l).length) * 2) .any) c _ (by omega) (by simp [aK]) (gI nA l)) ?_;apply Y;simp(disch:=omega)[aK,aH,vY];apply Z;refine zk [4,5,6,7,8] ?_;refine zr q29_4 fun _ _ Z=>?_;simp(disch:=omega)[aK,aH,vY];apply Z;refine zI ?_ ?_<;>intro c1<;>try simp at c1
  . have hlt := Ag nA c1
    refine zr q29_4 fun _ _ Z=>?_;simp(disch:=omega)[aK,aH,vY];and_intros<;>(try omega);apply Z;apply aC;simp [aG,c1]
  apply zA;refine zr q29_4 fun _ _ Z=>?_;simp(disch:=omega)[aK,aH,vY];apply Z;refine zr q29_4 fun _ _ Z=>?_;simp(disch:=omega)[aK,aH,vY];apply Z;apply aC;simp [aG,c1]
theorem Zv(l:List AT)(c:ByteArray)(σ:List (List D))(hl:l.length<=999999)(hs:Sorted nA l):Ct prog 234 [.sl false (l.map cZ),D.str c] σ (fun r σ'=>(∃v:ByteArray,r= .tup [D.str v,.bool (lL nA l c)])/\σ'=σ):=
  (aG0 l c σ hl).trim fun r σ' ⟨⟨v,hr⟩,J,hs'⟩=>⟨σ,J,hs',rfl,by rw [hr];exact Sc.tup fun d hd=>by simp at hd;rcases hd with rfl | rfl <;> exact Sc.v _,fun n cs h=> .inl h,⟨v,by rw [hr,qV nA hs,Ho nA hs]⟩,rfl⟩
theorem aJ9(l:List AT)(c:ByteArray)(v:ByteArray)(σ:List (List D))(hl:l.length<=99999):Ct prog 182 [.sl false (l.map cZ),D.str c,D.str v] σ (fun r σ'=>r= .xs 2 ((fU nA (iP nA l) ⟨c,v⟩).map cZ)/\σ'=σ):=by
  refine zf func182 ?_;have hol:=iX nA l;refine zr ⟨[6,9,10,12],[],[],[],[]⟩ fun _ _ Z=>?_;simp;apply Z;refine zr ⟨[6,9,10,12],[],[],[],[]⟩ fun _ _ Z=>?_;refine zs 1 fun _ Y=>?_;simp;apply Y;refine aF fun _ Y=>?_;simp;refine cN (Dc l _ (by omega)) ?_;apply Y;refine zs 3 fun _ Y=>?_;simp;apply Y;refine aF fun _ Y=>?_;simp;refine cN (aAd (iP nA l) ⟨c,v⟩ _ (by omega) (gI nA l)) ?_;apply Y;simp;apply Z;apply aC;simp [aG]
theorem aNl(l:List AT)(p:AT->Bool)(f:FuncId)(caps:List D)(σ:List (List D))(hl:l.length<=99999)(hcp:∀d∈caps,d.plain=true)(hcs:caps.map D.strip=caps)(hp:∀x τ,Ct prog f (cZ x::caps) τ (fun r τ'=>r= .bool (p x)/\τ'=τ)):Ct prog 259 [.sl false (l.map cZ),.clo (.func f) [] caps] σ (fun r σ'=>r= .xs 2 (((iP nA l).filter fun x=> !p x).map cZ)/\σ'=σ):=by
  refine zf func259 ?_;have hol:=iX nA l;refine zr ⟨[4,7,8],[],[],[],[]⟩ fun _ _ Z=>?_;simp;apply Z;refine zr ⟨[4,7,8],[],[],[],[]⟩ fun _ _ Z=>?_;refine zs 1 fun _ Y=>?_;simp;apply Y;refine aF fun _ Y=>?_;simp;refine cN (Dc l _ (by omega)) ?_;apply Y;refine zs 1 fun _ Y=>?_;simp;apply Y;refine aF fun _ Y=>?_;simp;refine cN (Xx (iP nA l) p f caps _ (by omega) hcp hcs hp) ?_;apply Y;simp;apply Z;apply aC;simp [aG]
theorem aB8(x:AT)(c:ByteArray)(σ:List (List D))  :Ct prog 260 [cZ x,.adr [D.str c]] σ (fun r σ'=>r= .bool (decide (x.name=c))/\σ'=σ):=by
  refine zf func260 ?_;refine bC fun _ _ Z=>?_;simp;apply Z;refine bC fun _ _ Z=>?_;simp;apply Z;apply aC;simp[aG]
theorem aD6(l:List AT)(c:ByteArray)(σ:List (List D))(hl:l.length<=99999):Ct prog 235 [.sl false (l.map cZ),D.str c] σ (fun r σ'=>r= .xs 2 ((kP nA (iP nA l) c).map cZ)/\σ'=σ):=by
  refine zf func235 ?_;refine zr ⟨[4],[3],[],[],[]⟩ fun _ _ Z=>?_;simp;apply Z;refine zr ⟨[4],[3],[],[],[]⟩ fun _ _ Z=>?_;refine zs 2 fun _ Y=>?_;simp;and_intros<;>(try omega);apply Y;refine aF fun _ Y=>?_;simp;refine cN (aNl l (fun x=>decide (x.name=c)) 260 [.adr [D.str c]] _ hl (by simp) (by simp) (fun x τ=>aB8 x c τ)) ?_;apply Y;simp;apply Z;apply aC;simp [aG,kP]
theorem aAz(l:List AT)(c:ByteArray)(v:ByteArray)(σ:List (List D))(hl:l.length<=99999)(hs:Sorted nA l):Ct prog 182 [.sl false (l.map cZ),D.str c,D.str v] σ (fun r σ'=>r= .sl false ((fU nA l ⟨c,v⟩).map cZ)/\σ'=σ):=
  (aJ9 l c v σ hl).freeze fun r σ' h=>by rw [qV nA hs] at h;exact h
theorem aK2(l:List AT)(c:ByteArray)(σ:List (List D))(hl:l.length<=99999)(hs:Sorted nA l):Ct prog 235 [.sl false (l.map cZ),D.str c] σ (fun r σ'=>r= .sl false ((kP nA l c).map cZ)/\σ'=σ):=
  (aD6 l c σ hl).freeze fun r σ' h=>by rw [qV nA hs] at h;exact h
theorem aAm(x:PI)(s:ByteArray)(σ:List (List D))  :Ct prog 237 [cL x,D.str s] σ (fun r σ'=>r= .int (Kk x.name s)/\σ'=σ):=by
  refine zf func237 ?_;refine bC fun _ _ Z=>?_;simp;apply Z;refine bC fun _ _ Z=>?_;refine zs 3 fun _ Y=>?_;simp;apply Y;refine aF fun _ Y=>?_;simp;refine cN (Ic x.name s _) ?_;apply Y;simp;apply Z;apply aC;simp [aG]
theorem aQ6 (N cap : Nat) (l : List PI) (rest : List D) (c : ByteArray) (σ : List (List D)) (hl : l.length <= 1000000) (hN : σ[N]? = some (l.flatMap cP ++ rest)) (hs : Sorted nP l) : Ct prog 236 [.slo N 0 l.length cap, D.str c, .clo (.func 237) [] []] σ (fun r σ' => r = .tup [.int ((kS nP l c : Nat) : Int), .bool (Ks nP l c)] /\ σ' = σ) := by
  refine zf func236 ?_;refine zr q29_1 fun _ _ Z=>?_;simp(disch:=omega)[hN,dX,dW];apply Z;refine zr q29_1 fun _ _ Z=>?_;simp(disch:=omega)[hN,dX,dW];and_intros<;>(try omega);apply Z;refine zr q29_1 fun _ _ Z=>?_;simp(disch:=omega)[hN,dX,dW];apply Z;apply Ry;refine zk [0,1,2,6,7,8,9,10] ?_;refine aY (fun(s:Nat×Nat)=> [(9,.d (.v (.int .i64 (s.1:Int)))),(10,.d (.v (.int .i64 (s.2:Int)))),(11,.d (.any))]) [9,10,11,15,16,17,18,19,20,21,22,23,24,25,26,27,28,29,30,31,32,33,34] (fun(s:Nat×Nat)=>s.1<=s.2/\s.2<=l.length/\(∀j (h:j<l.length),j<s.1->dM l[j].name c=true)/\(∀j (h:j<l.length),s.2<=j->dM l[j].name c=false)) (fun(s:Nat×Nat)=>s.2 - s.1) ((0,l.length)) (by simp <;> rfl) ?_ ?_ ?_
  . simp
  . exact⟨by omega,by omega,fun j h h2=>absurd h2 (by simp),fun j h h2=>absurd h2 (by simp;omega)⟩
  rintro⟨lo,hi⟩ ⟨h1,h2,h3,h4⟩;simp only [aQ,aP];dsimp only at h1 h2 h3 h4;have hmid:lo<hi->(lo+hi) / 2<hi:=fun h=>by omega
  apply aE;refine zr q29_1 fun _ _ Z=>?_;simp(disch:=omega)[hN,dX,dW];apply Z;refine zI ?_ ?_<;>intro c1<;>try simp at c1
  . apply zA
    apply aR;refine zk [0,1,2,6,7,8,9,10,11] ?_;refine zr q29_1 fun _ _ Z=>?_;simp(disch:=omega)[hN,dX,dW];and_intros<;>(try omega);apply Z;refine zk [0,1,2,6,7,8,9,10,11] ?_;refine zr q29_1 fun _ _ Z=>?_;refine zs 6 fun _ Y=>?_;simp(disch:=omega)[hN,dX,dW];and_intros<;>(try omega);apply Y;refine aF fun _ Y=>?_;simp(disch:=omega)[hN,dX,dW];refine cN (aAm l[(lo+hi) / 2] c _) ?_;apply Y;simp(disch:=omega)[hN,dX,dW];apply Z;refine zI ?_ ?_<;>intro c2<;>try simp at c2
    . refine zk [0,1,2,6,7,8,9,10,11] ?_
      refine zt q29_1 fun _ _ Z=>?_;simp(disch:=omega)[hN,dX,dW];and_intros<;>(try omega);apply Z;apply kT;refine zq (((lo+hi) / 2+1,hi)) ?_ ?_ ?_
      . exact⟨by dsimp only;omega,by dsimp only;omega,aQa nP hs (by omega) (by simpa [Ja] using c2),h4⟩
      . try dsimp only
        omega
      simp(disch:=omega)[hN,dX,dW]
    refine zk [0,1,2,6,7,8,9,10,11] ?_;refine zt q29_1 fun _ _ Z=>?_;simp(disch:=omega)[hN,dX,dW];apply Z;apply kT;refine zq ((lo,(lo+hi) / 2)) ?_ ?_ ?_
    . exact⟨by dsimp only;omega,by dsimp only;omega,h3,aQh nP hs (by omega) ((aBi _ _).1 (by omega))⟩
    . try dsimp only
      omega
    simp(disch:=omega)[hN,dX,dW]
  obtain rfl:lo=hi:=by omega
  have hpos:kS nP l c=lo:=Po nP l c lo h2 h3 (fun h=>h4 lo h (aX _));apply zE;refine zk [0,1,2,6,7,8,9] ?_;refine mE q29_1 fun all hall _ Z=>?_;have ga4:aO all 4=some 39:=hall 4;refine zs 5 fun _ Y=>?_;simp(disch:=omega)[hN,dX,dW,ga4];apply Y;refine zb 39 ?_ ?_<;>intro g3<;>try simp at g3
  . refine zs 6 fun _ Y=>?_
    simp(disch:=omega)[hN,dX,dW,ga4];and_intros<;>(try omega);apply Y;refine zg ga4 fun _ Y=>?_;simp(disch:=omega)[hN,dX,dW,ga4];refine cN (aAm l[lo] c _) ?_;apply Y;simp(disch:=omega)[hN,dX,dW,ga4];apply Z;apply aC;simp [aG,hpos,Qt, *];exact Nk _ _
  refine zs 8 fun _ Y=>?_;simp(disch:=omega)[hN,dX,dW,ga4];and_intros<;>(try omega);apply Y;simp(disch:=omega)[hN,dX,dW,ga4];apply Z;apply aC;simp [aG,hpos, *];exact Ht _ _ _ (by omega)
theorem Rh(N cap:Nat)(l:List PI)(rest:List D)(c:ByteArray)(σ:List (List D))(hl:l.length<=1000000)(hN:σ[N]?=some (l.flatMap cP++rest))(hs:Sorted nP l):Ct prog 201 [.slo N 0 l.length cap,D.str c] σ (fun r σ'=>r= .tup [.int ((kS nP l c:Nat):Int),.bool (Ks nP l c)]/\σ'=σ):=by
  refine zf func201 ?_;refine bC fun _ _ Z=>?_;simp[hN];apply Z;refine bC fun _ _ Z=>?_;refine zs 2 fun _ Y=>?_;simp[hN];apply Y;refine aF fun _ Y=>?_;simp[hN];refine cN (aQ6 N cap l rest c _ hl hN hs) ?_;apply Y;simp[hN];apply Z;apply aC;simp [aG]
theorem aK4(l:List PI)(p:PI)(σ:List (List D))(hl:l.length<=999999)(hs:Sorted nP l):Ct prog 188 [.xs 2 (l.map cL),cL p] σ (fun r σ'=>r= .xs 2 ((fU nP l p).map cL)/\∃J,σ'=σ++J):=by
  refine zf func188 ?_;refine iU 0 2 rfl (by decide) fun cap rest hcap hcm hrest hk0 hes=>?_;subst hrest;simp only [bQ] at hcap |-;rw [cQ (f:=cP) (fun _=>rfl)];have hpl:=Ps nP l p.name;refine zr q29_2 fun _ _ Z=>?_;simp(disch:=omega)[aK,aH];apply Z;refine zr q29_2 fun _ _ Z=>?_;refine zs 3 fun _ Y=>?_;simp(disch:=omega)[aK,aH];apply Y;refine aF fun _ Y=>?_;simp(disch:=omega)[aK,aH];refine cN (Rh σ.length cap l (List.replicate ((cap - l.length) * 2) .any) p.name _ (by omega) (by simp [aK]) hs) ?_;apply Y;simp(disch:=omega)[aK,aH];apply Z;apply aE;refine zr q29_2 fun _ _ Z=>?_;simp(disch:=omega)[aK,aH];apply Z;refine zI ?_ ?_<;>intro c1<;>try simp at c1
  . have hlt := Ag nP c1
    refine zk [0,3,4,5] ?_;refine zr q29_2 fun _ _ Z=>?_;simp(disch:=omega)[aK,aH];and_intros<;>(try omega);apply Z;refine zr q29_2 fun _ _ Z=>?_;simp(disch:=omega)[aK,aH];apply Z;refine fL 4 2 σ.length l.length cap ((l.set (kS nP l p.name) p).map cL) ((l.set (kS nP l p.name) p).flatMap cP++List.replicate ((cap - l.length) * 2) .any) (by simp <;> rfl) (by simp [aK]) (by omega) (by simp only [bA,dE (f:=cP) (k:=2) (fun _=>rfl),cR,cE];omega) (by simp) (lZ (d:=cL) (fun _=>⟨rfl,rfl⟩) _) (by rw [cQ (f:=cP) (fun _=>rfl)];exact dL _ _) ?_;apply aC;simp [aG,Cd,c1]
  apply zA;refine fL 0 2 σ.length l.length cap (l.map cL) (l.flatMap cP++List.replicate ((cap - l.length) * 2) .any) (by simp <;> rfl) (by simp [aK]) (by omega) (by simp only [bA,dE (f:=cP) (k:=2) (fun _=>rfl),cR,cE];omega) (by simp) (lZ (d:=cL) (fun _=>⟨rfl,rfl⟩) _) (by rw [cQ (f:=cP) (fun _=>rfl)];exact dL _ _) ?_;refine zk [0,3,4,5] ?_;refine zr q29_2 fun _ _ Z=>?_;refine zs 4 fun _ Y=>?_;simp(disch:=omega)[aK,aH];and_intros<;>(try omega);apply Y;refine aF fun _ Y=>?_;simp(disch:=omega)[aK,aH];refine cN (aMw l p (kS nP l p.name) _ (by omega) hpl) ?_;apply Y;simp(disch:=omega)[aK,aH];apply Z;apply aC;simp [aG,Cd,c1]
theorem Zx(l:List PI)(p:PI)(σ:List (List D))(hl:l.length<=999999)(hs:Sorted nP l):Ct prog 188 [.xs 2 (l.map cL),cL p] σ (fun r σ'=>r= .xs 2 ((fU nP l p).map cL)/\σ'=σ):=
  (aK4 l p σ hl hs).trim fun r σ' ⟨hr,J,hs⟩=>⟨σ,J,hs,rfl,by rw [hr];exact aRj _ _,fun n cs h=> .inl h,hr,rfl⟩
theorem wE(l:List PI)(rest:List D)(i:Nat)(h:i<l.length):yX false 1 ((l.flatMap cP++rest).drop (i * 2+1))=some (D.int l[i].value):=Vu (f:=cP) (k:=2) (fun _=>rfl) l rest i 1 h (by decide)
theorem Ds(l:List PI)(σ:List (List D))(hl:l.length<=999999):Ct prog 108 [.sl false (l.map cL)] σ (fun r σ'=>r= .xs 2 ((iP nP l).map cL)/\σ'=σ):=by
  refine zf func108 ?_;refine zr q29_3 fun _ _ Z=>?_;simp(disch:=omega);apply Z;refine zr q29_3 fun _ _ Z=>?_;simp(disch:=omega);apply Z;apply aE;refine zr q29_3 fun _ _ Z=>?_;simp(disch:=omega);and_intros<;>(try omega);apply Z;apply aR;refine zk [2,3,6,7,8] ?_;refine Ii 3 2 (by simp <;> rfl) ?_;refine aY (fun(k:Nat)=> [(8,.d (.v (.int .i64 (k:Int)))),(3,.d (.xs 2 ((iP nP (l.take k)).map cL)))]) [3,5,8,9,10,11,12,13,14,15] (fun(k:Nat)=>k<=l.length) (fun(k:Nat)=>l.length - k) (0) (by simp <;> rfl) ?_ ?_ ?_
  . simp [iP]
  . simp
  rintro k hk;simp only [aQ,aP];have hol:=iX nP (l.take k);simp only [bF] at hol;refine zr q29_3 fun _ _ Z=>?_;simp(disch:=omega);apply Z;apply aE;refine zI ?_ ?_<;>intro c1<;>try simp at c1
  . apply kO
    refine zr q29_3 fun _ _ Z=>?_;simp(disch:=omega);and_intros<;>(try omega);apply Z;refine zt q29_3 fun _ _ Z=>?_;refine zs 2 fun _ Y=>?_;simp(disch:=omega);apply Y;refine aF fun _ Y=>?_;simp(disch:=omega);refine cN (Zx (iP nP (l.take k)) l[k] _ (by omega) (gI nP _)) ?_;apply Y;simp(disch:=omega);apply Z;apply zB;refine zk [2,3,6,7,8] ?_;refine zt q29_3 fun _ _ Z=>?_;simp(disch:=omega);and_intros<;>(try omega);apply Z;refine zq (k+1) ?_ ?_ ?_
    . omega
    . try dsimp only
      omega
    simp(disch:=omega)[Kw]
  apply zE;refine zr q29_3 fun _ _ Z=>?_;simp(disch:=omega);apply Z;apply aC;simp [aG];rw [bV (by omega)]
theorem aL2(l:List PI)(c:ByteArray)(σ:List (List D))(hl:l.length<=999999):Ct prog 239 [.sl false (l.map cL),D.str c] σ (fun r σ'=>(∃v:Int,r= .tup [D.int v,.bool (Ks nP (iP nP l) c)])/\∃J,σ'=σ++J):=by
  refine zf func239 ?_;have hol:=iX nP l;refine zr q29_4 fun _ _ Z=>?_;simp(disch:=omega)[aK,aH,wE];apply Z;refine zr q29_4 fun _ _ Z=>?_;refine zs 1 fun _ Y=>?_;simp(disch:=omega)[aK,aH,wE];apply Y;refine aF fun _ Y=>?_;simp(disch:=omega)[aK,aH,wE];refine cN (Ds l _ hl) ?_;apply Y;simp(disch:=omega)[aK,aH,wE];apply Z;apply aE;refine iU 6 2 rfl (by decide) fun cap rest hcap hcm hrest hk0 hes=>?_;subst hrest;simp only [bQ] at hcap |-;rw [cQ (f:=cP) (fun _=>rfl)];refine zr q29_4 fun _ _ Z=>?_;refine zs 2 fun _ Y=>?_;simp(disch:=omega)[aK,aH,wE];apply Y;refine aF fun _ Y=>?_;simp(disch:=omega)[aK,aH,wE];refine cN (Rh σ.length cap (iP nP l) (List.replicate ((cap - (iP nP l).length) * 2) .any) c _ (by omega) (by simp [aK]) (gI nP l)) ?_;apply Y;simp(disch:=omega)[aK,aH,wE];apply Z;refine zk [4,5,6,7,8] ?_;refine zr q29_4 fun _ _ Z=>?_;simp(disch:=omega)[aK,aH,wE];apply Z;refine zI ?_ ?_<;>intro c1<;>try simp at c1
  . have hlt := Ag nP c1
    refine zr q29_4 fun _ _ Z=>?_;simp(disch:=omega)[aK,aH,wE];and_intros<;>(try omega);apply Z;apply aC;simp [aG,c1]
  apply zA;refine zr q29_4 fun _ _ Z=>?_;simp(disch:=omega)[aK,aH,wE];apply Z;refine zr q29_4 fun _ _ Z=>?_;simp(disch:=omega)[aK,aH,wE];apply Z;apply aC;simp [aG,c1]
theorem aAv(l:List PI)(c:ByteArray)(σ:List (List D))(hl:l.length<=999999)(hs:Sorted nP l):Ct prog 239 [.sl false (l.map cL),D.str c] σ (fun r σ'=>(∃v:Int,r= .tup [D.int v,.bool (lL nP l c)])/\σ'=σ):=
  (aL2 l c σ hl).trim fun r σ' ⟨⟨v,hr⟩,J,hs'⟩=>⟨σ,J,hs',rfl,by rw [hr];exact Sc.tup fun d hd=>by simp at hd;rcases hd with rfl | rfl <;> exact Sc.v _,fun n cs h=> .inl h,⟨v,by rw [hr,qV nP hs,Ho nP hs]⟩,rfl⟩
theorem aGa(l:List PI)(c:ByteArray)(v:Int)(σ:List (List D))(hl:l.length<=99999):Ct prog 183 [.sl false (l.map cL),D.str c,D.int v] σ (fun r σ'=>r= .xs 2 ((fU nP (iP nP l) ⟨c,v⟩).map cL)/\σ'=σ):=by
  refine zf func183 ?_;have hol:=iX nP l;refine zr ⟨[6,9,10,12],[],[],[],[]⟩ fun _ _ Z=>?_;simp;apply Z;refine zr ⟨[6,9,10,12],[],[],[],[]⟩ fun _ _ Z=>?_;refine zs 1 fun _ Y=>?_;simp;apply Y;refine aF fun _ Y=>?_;simp;refine cN (Ds l _ (by omega)) ?_;apply Y;refine zs 3 fun _ Y=>?_;simp;apply Y;refine aF fun _ Y=>?_;simp;refine cN (Zx (iP nP l) ⟨c,v⟩ _ (by omega) (gI nP l)) ?_;apply Y;simp;apply Z;apply aC;simp [aG]
theorem aPb(l:List PI)(p:PI->Bool)(f:FuncId)(caps:List D)(σ:List (List D))(hl:l.length<=99999)(hcp:∀d∈caps,d.plain=true)(hcs:caps.map D.strip=caps)(hp:∀x τ,Ct prog f (cL x::caps) τ (fun r τ'=>r= .bool (p x)/\τ'=τ)):Ct prog 261 [.sl false (l.map cL),.clo (.func f) [] caps] σ (fun r σ'=>r= .xs 2 (((iP nP l).filter fun x=> !p x).map cL)/\σ'=σ):=by
  refine zf func261 ?_;have hol:=iX nP l;refine zr ⟨[4,7,8],[],[],[],[]⟩ fun _ _ Z=>?_;simp;apply Z;refine zr ⟨[4,7,8],[],[],[],[]⟩ fun _ _ Z=>?_;refine zs 1 fun _ Y=>?_;simp;apply Y;refine aF fun _ Y=>?_;simp;refine cN (Ds l _ (by omega)) ?_;apply Y;refine zs 1 fun _ Y=>?_;simp;apply Y;refine aF fun _ Y=>?_;simp;refine cN (Xb (iP nP l) p f caps _ (by omega) hcp hcs hp) ?_;apply Y;simp;apply Z;apply aC;simp [aG]
theorem aE3(x:PI)(c:ByteArray)(σ:List (List D))  :Ct prog 262 [cL x,.adr [D.str c]] σ (fun r σ'=>r= .bool (decide (x.name=c))/\σ'=σ):=by
  refine zf func262 ?_;refine bC fun _ _ Z=>?_;simp;apply Z;refine bC fun _ _ Z=>?_;simp;apply Z;apply aC;simp[aG]
theorem aDk(l:List PI)(c:ByteArray)(σ:List (List D))(hl:l.length<=99999):Ct prog 240 [.sl false (l.map cL),D.str c] σ (fun r σ'=>r= .xs 2 ((kP nP (iP nP l) c).map cL)/\σ'=σ):=by
  refine zf func240 ?_;refine zr ⟨[4],[3],[],[],[]⟩ fun _ _ Z=>?_;simp;apply Z;refine zr ⟨[4],[3],[],[],[]⟩ fun _ _ Z=>?_;refine zs 2 fun _ Y=>?_;simp;and_intros<;>(try omega);apply Y;refine aF fun _ Y=>?_;simp;refine cN (aPb l (fun x=>decide (x.name=c)) 262 [.adr [D.str c]] _ hl (by simp) (by simp) (fun x τ=>aE3 x c τ)) ?_;apply Y;simp;apply Z;apply aC;simp [aG,kP]
theorem Bj(l:List PI)(c:ByteArray)(v:Int)(σ:List (List D))(hl:l.length<=99999)(hs:Sorted nP l):Ct prog 183 [.sl false (l.map cL),D.str c,D.int v] σ (fun r σ'=>r= .sl false ((fU nP l ⟨c,v⟩).map cL)/\σ'=σ):=
  (aGa l c v σ hl).freeze fun r σ' h=>by rw [qV nP hs] at h;exact h
theorem aG6(l:List PI)(c:ByteArray)(σ:List (List D))(hl:l.length<=99999)(hs:Sorted nP l):Ct prog 240 [.sl false (l.map cL),D.str c] σ (fun r σ'=>r= .sl false ((kP nP l c).map cL)/\σ'=σ):=
  (aDk l c σ hl).freeze fun r σ' h=>by rw [qV nP hs] at h;exact h
end Go.Proofs.YtbgfljpnhhdkoaaGreat
