import Derived.Test.YtbgfljpnhhdkoaaGreatWkAr4
set_option linter.all false
set_option maxRecDepth 20000
set_option maxHeartbeats 8000000
open Go.Proofs.Tryz
namespace Go.Proofs.YtbgfljpnhhdkoaaGreat
open Go Go.Vm
variable {a b c:ByteArray}
def eF(a b:ByteArray):Bool:=Op.bytesLess a.toList b.toList
theorem Qo:∀a:List UInt8,Op.bytesLess a a=false
  | []=>rfl
  | a::x=>by simp [Op.bytesLess,Qo x]
theorem aV9 {a b:UInt8} :a<b↔a.toNat<b.toNat:=Iff.rfl
theorem Wm:∀a b c:List UInt8,Op.bytesLess a b=true->Op.bytesLess b c=true->Op.bytesLess a c=true
  | [], [],_,h,_=>by simp [Op.bytesLess] at h
  | _::_, [],_,h,_=>by simp [Op.bytesLess] at h
  | [],_::_, [],_,h=>by simp [Op.bytesLess] at h
  | _::_,_::_, [],_,h=>by simp [Op.bytesLess] at h
  | [],_::_,_::_,_,_=>by simp [Op.bytesLess]
  | a :: x, b :: y, c :: z, h1, h2 => by
    simp only [Op.bytesLess,Fo,fQ,eO,yW,aV9] at *;rcases h1 with h1 | ⟨rfl,h1⟩
    . rcases h2 with h2 | ⟨rfl, h2⟩
      . left;omega
      left;exact h1
    rcases h2 with h2 | ⟨rfl,h2⟩
    . left;exact h2
    right;exact⟨rfl,Wm x y z h1 h2⟩
theorem oP(a:ByteArray):eF a a=false:=Qo _
theorem tD (h1:eF a b=true)(h2:eF b c=true):eF a c=true:=Wm _ _ _ h1 h2
theorem Uz(a b:ByteArray):eF a b=true\/a=b\/eF b a=true:=by
  have h:=Aa a.toList b.toList;unfold eF;cases h1:Op.bytesLess a.toList b.toList with
  | true=>left;rfl
  | false =>
    rw [h1,zL,rE] at h;cases h2:Op.bytesLess b.toList a.toList with
    | true=>right;right;rfl
    | false=>rw [h2] at h;right;left;simpa using h
theorem aBc (h:eF a b=true):eF b a=false:=by
  cases h2:eF b a with
  | false=>rfl
  | true=>have:=tD h h2;rw [oP] at this;cases this
theorem tX (h:eF a b=true):a≠b:=by rintro rfl;rw [oP] at h;cases h
theorem Wr (h:eF a b=false)(hn:a≠b):eF b a=true:=by
  rcases Uz a b with h1 | h1 | h1
  . rw [h1] at h;cases h
  . exact absurd h1 hn
  exact h1
def Jq(a b:ByteArray):Int:=if eF a b=true then -1 else if eF b a=true then 1 else 0
theorem Jl(a b:ByteArray):Jq a b<0↔eF a b=true:=by
  unfold Jq;repeat' split
  all_goals simp_all
theorem aCq(a b:ByteArray):0<=Jq a b↔eF a b=false:=by
  have:=Jl a b;rw [<- Gu,<- this];omega
theorem Pp(a b:ByteArray):Jq a b=0↔a=b:=by
  unfold Jq
  repeat' split
  . rename_i h;simp;exact tX h
  . rename_i h;simp;exact fun e=>tX h e.symm
  rename_i h1 h2;simp only [true_iff];rcases Uz a b with h | h | h
  . exact absurd h h1
  . exact h
  exact absurd h h2
section
variable {α:Type} (nm:α->ByteArray)
def lO:List α->ByteArray->Nat
  | [],_=>0
  | q::l,c=>if eF (nm q) c=true then lO l c+1 else 0
def Kv:List α->ByteArray->Bool
  | [],_=>false
  | q::l,c=>if eF (nm q) c=true then Kv l c else decide (nm q=c)
def gS:List α->α->List α
  | [],p=> [p]
  | q::l,p=>if eF (nm q) (nm p)=true then q::gS l p else if nm q=nm p then p::l else p::q::l
def Sorted(l:List α):Prop:=l.Pairwise fun a b=>eF (nm a) (nm b)=true
def fY(l:List α):List α:=l.foldl (gS nm) []
def jJ(l:List α)(c:ByteArray):Bool:=l.any fun p=>decide (nm p=c)
def lN(l:List α)(c:ByteArray):List α:=l.filter fun p=> !decide (nm p=c)
theorem Tv(l:List α)(c:ByteArray):lO nm l c<=l.length:=by
  induction l with
  | nil=>exact aV _
  | cons q l ih=>unfold lO;split <;> simp <;> omega
theorem Ts:∀(l:List α) (c:ByteArray) (i:Nat),i<=l.length->(∀j (h:j<l.length),j<i->eF (nm l[j]) c=true)->(∀h:i<l.length,eF (nm l[i]) c=false)->lO nm l c=i
  | [],c,i,hi,_,_=>by simp at hi;subst hi;rfl
  | q :: l, c, 0, _, _, h2 => by
    have:=h2 (by simp);simp only [zR] at this;simp [lO,this]
  | q :: l, c, i + 1, hi, h1, h2 => by
    have h0:=h1 0 (by simp) (by omega);simp only [zR] at h0;have:=Ts l c i (by simpa using hi) (fun j h hj=>h1 (j+1) (by simpa using h) (by omega)) (fun h=>h2 (by simpa using h));simp [lO,h0,this]
theorem Sx:∀(l:List α) (c:ByteArray) (h:lO nm l c<l.length),Kv nm l c=decide (nm l[lO nm l c]=c)
  | [],c,h=>by simp at h
  | q :: l, c, h => by
    by_cases e:eF (nm q) c=true
    . have hp : lO nm (q :: l) c = lO nm l c + 1 := by simp [lO, e]
      have h':lO nm l c<l.length:=by rw [hp] at h;simpa using h
      have:=Sx l c h';simp only [Kv,e,aU,this,hp,List.getElem_cons_succ]
    have hp:lO nm (q::l) c=0:=by simp [lO,e]
    simp only [Kv,e,bJ,hp,zR];rfl
theorem Jf:∀(l:List α) (c:ByteArray),lO nm l c=l.length->Kv nm l c=false
  | [],c,_=>rfl
  | q :: l, c, h => by
    by_cases e:eF (nm q) c=true
    . have hp : lO nm (q :: l) c = lO nm l c + 1 := by simp [lO, e]
      simp only [Kv,e,aU];exact Jf l c (by rw [hp] at h;simpa using h)
    have hp:lO nm (q::l) c=0:=by simp [lO,e]
    rw [hp] at h;simp at h
theorem Bm {l:List α} (h:Kv nm l c=true):lO nm l c<l.length:=by
  have:=Tv nm l c;rcases qD (lO nm l c) l.length with h1 | h1
  . exact h1
  have:=Jf nm l c (by omega);rw [h] at this;cases this
theorem Du:∀(l:List α) (p:α),gS nm l p=if Kv nm l (nm p)=true then l.set (lO nm l (nm p)) p else fV l (lO nm l (nm p)) p
  | [],p=>rfl
  | q :: l, p => by
    by_cases e:eF (nm q) (nm p)=true
    . have ih := Du l p
      simp only [gS,Kv,lO,e,aU,ih];split <;> simp [fV]
    simp only [gS,Kv,lO,e,bJ];by_cases e2:nm q=nm p <;> simp [e2,fV]
theorem Nf(l:List α)(p:α):(gS nm l p).length<=l.length+1:=by
  induction l with
  | nil=>simp [gS]
  | cons q l ih => unfold gS; repeat' split
                   all_goals simp
                   all_goals omega
theorem Da {l:List α} {p x:α} (h:x∈gS nm l p):x=p\/x∈l:=by
  induction l with
  | nil=>simp [gS] at h;exact .inl h
  | cons q l ih =>
    unfold gS at h;split at h
    . rcases bU.1 h with h | h
      . exact .inr (by simp [h])
      rcases ih h with h | h
      . exact .inl h
      exact .inr (by simp [h])
    split at h
    . rcases bU.1 h with h | h
      . exact .inl h
      exact .inr (by simp [h])
    rcases bU.1 h with h | h
    . exact .inl h
    exact .inr h
theorem rP {l:List α} (h:Sorted nm l)(p:α):Sorted nm (gS nm l p):=by
  induction l with
  | nil=>simp [gS,Sorted]
  | cons q l ih =>
    have h':=kP.1 h;unfold gS;split
    . rename_i e
      refine kP.2 ⟨fun x hx=>?_,ih h'.2⟩;rcases Da nm hx with rfl | hx
      . exact e
      exact h'.1 x hx
    rename_i e;split
    . rename_i e2
      exact kP.2 ⟨fun x hx=>by rw [<- e2];exact h'.1 x hx,h'.2⟩
    rename_i e2;have e3:=Wr (by simpa using e) e2;refine kP.2 ⟨fun x hx=>?_,h⟩;rcases bU.1 hx with rfl | hx
    . exact e3
    exact tD e3 (h'.1 x hx)
theorem xZ(l:List α)(p:α):fY nm (l++ [p])=gS nm (fY nm l) p:=by simp [fY,lH]
theorem Kr(l:List α)(k:Nat)(h:k<l.length):fY nm (l.take (k+1))=gS nm (fY nm (l.take k)) l[k]:=by rw [bK l k h,xZ]
theorem jD(l:List α):Sorted nm (fY nm l):=by
  induction l using oG with
  | h0=>simp [fY,Sorted]
  | h1 l x ih=>rw [xZ];exact rP nm ih x
theorem gZ(l:List α):(fY nm l).length<=l.length:=by
  induction l using oG with
  | h0=>simp [fY]
  | h1 l x ih=>rw [xZ];have:=Nf nm (fY nm l) x;simp;omega
theorem aEd {l:List α} {p:α} (h:∀x∈l,eF (nm x) (nm p)=true):gS nm l p=l++ [p]:=by
  induction l with
  | nil=>rfl
  | cons q l ih =>
    have:=h q (by simp);simp only [gS,this,aU,aP];rw [ih fun x hx=>h x (by simp [hx])]
theorem rT {l:List α} (h:Sorted nm l):fY nm l=l:=by
  induction l using oG with
  | h0=>rfl
  | h1 l x ih =>
    have h':=Et.1 h;rw [xZ,ih h'.1,aEd nm fun y hy=>h'.2.2 y hy x (by simp)]
theorem Iz {l:List α} (h:Sorted nm l)(c:ByteArray):Kv nm l c=jJ nm l c:=by
  induction l with
  | nil=>rfl
  | cons q l ih =>
    have h':=kP.1 h;unfold Kv jJ;simp only [List.any_cons];split
    . rename_i e
      rw [ih h'.2];have:¬nm q=c:=tX e;simp [this,jJ]
    rename_i e;have:(l.any fun p=>decide (nm p=c))=false:=by
      rw [oX];intro x hx;simp only [eO];rintro rfl;have:=h'.1 x hx;exact e this
    rw [this,uR]
theorem tT {l:List α} (h:Sorted nm l)(c:ByteArray):Sorted nm (lN nm l c):=List.Pairwise.filter _ h
theorem Dr(l:List α)(c:ByteArray):(lN nm l c).length<=l.length:=gE _ _
theorem Jz {l:List α} (c:ByteArray):((lN nm l c).length=l.length)↔jJ nm l c=false:=by
  unfold lN jJ;rw [List.length_filter_eq_length_iff,oX];simp
theorem zQ(l:List α)(c:ByteArray)(k:Nat)(h:k<l.length):lN nm (l.take (k+1)) c=lN nm (l.take k) c++if nm l[k]=c then [] else [l[k]]:=by
  unfold lN;rw [bK l k h,eP,gJ];by_cases e:nm l[k]=c <;> simp [e]
theorem aSi {l:List α} {m:Nat} (hs:Sorted nm l)(hm:m<l.length)(h:eF (nm l[m]) c=true):∀j (h:j<l.length),j<m+1->eF (nm l[j]) c=true:=fun j hj hjm=>by
  rcases qD j m with h1 | h1
  . exact tD (pZ.1 hs j m hj hm h1) h
  obtain rfl:j=m:=by omega
  exact h
theorem aSf {l:List α} {m:Nat} (hs:Sorted nm l)(hm:m<l.length)(h:eF (nm l[m]) c=false):∀j (h:j<l.length),m<=j->eF (nm l[j]) c=false:=fun j hj hjm=>by
  rcases qD m j with h1 | h1
  . have := pZ.1 hs m j hm hj h1
    cases e:eF (nm l[j]) c with
    | false=>rfl
    | true=>rw [tD this e] at h;cases h
  obtain rfl:j=m:=by omega
  exact h
def mZ(p:α)(s:List α×Bool)(x:α):List α×Bool:=
  let s1:=if s.2=false/\eF (nm x) (nm p)=false then(s.1++ [p],true)else s
  if nm x=nm p then s1 else(s1.1++ [x],s1.2)
def rV(l:List α)(p:α):List α×Bool:=l.foldl (mZ nm p) ([],false)
def aHx(s:List α×Bool)(p:α):List α:=if s.2=true then s.1 else s.1++ [p]
theorem qH(l:List α)(p:α)(k:Nat)(h:k<l.length):rV nm (l.take (k+1)) p=mZ nm p (rV nm (l.take k) p) l[k]:=by
  unfold rV;rw [bK l k h,lH];rfl
theorem aEs(l:List α)(p:α):(rV nm l p).1.length<=l.length+(if(rV nm l p).2=true then 1 else 0):=by
  induction l using oG with
  | h0=>simp [rV]
  | h1 l x ih =>
    have e:rV nm (l++ [x]) p=mZ nm p (rV nm l p) x:=by unfold rV;rw [lH];rfl
    rw [e];generalize rV nm l p=s at ih;obtain⟨o,b⟩:=s;unfold mZ;cases b <;> by_cases e1:eF (nm x) (nm p)=false <;> by_cases e2:nm x=nm p <;> simp_all <;> omega
theorem Nb(p:α):∀(l o:List α),(l.foldl (mZ nm p) (o,true))=(o++lN nm l (nm p),true)
  | [],o=>by simp [lN]
  | x :: l, o => by
    rw [dV];have e:mZ nm p (o,true) x=(if nm x=nm p then o else o++ [x],true):=by
      unfold mZ;simp;split <;> rfl
    rw [e,Nb p l];unfold lN;by_cases e2:nm x=nm p <;> simp [e2]
theorem Hy (p : α) : ∀ (l o : List α), Sorted nm l -> aHx (l.foldl (mZ nm p) (o, false)) p = o ++ gS nm l p
  | [],o,_=>by simp [aHx,gS]
  | x :: l, o, h => by
    have h':=kP.1 h;rw [dV];by_cases e1:eF (nm x) (nm p)=true
    . have e : mZ nm p (o, false) x = (o ++ [x], false) := by
        unfold mZ;simp [e1,tX e1]
      rw [e,Hy p l _ h'.2];simp [gS,e1]
    have e1':eF (nm x) (nm p)=false:=by simpa using e1
    have hid:∀y∈l,nm y≠nm p:=fun y hy hp=>e1 (by have:=h'.1 y hy;rw [hp] at this;exact this);have hdel:lN nm l (nm p)=l:=by
      unfold lN;rw [lT];intro y hy;simp [hid y hy]
    have e:mZ nm p (o,false) x=(if nm x=nm p then o++ [p] else o++ [p]++ [x],true):=by
      unfold mZ;simp [e1'];split <;> rfl
    rw [e,Nb,hdel];by_cases e2:nm x=nm p <;> simp [aHx,gS,e1,e2,oP]
theorem Qs {l:List α} (h:Sorted nm l)(p:α):aHx (rV nm l p) p=gS nm l p:=by
  have:=Hy nm p l [] h;simpa [rV] using this
def rS(out:List α)(c:ByteArray):Bool:=match out.getLast? with | none=>true | some q=>eF (nm q) c
def Oc(l out:List α):Option α:=((fY nm l).filter fun p=>rS nm out (nm p)).head?
theorem Us {g:ByteArray->Bool} (hup:∀a b,eF a b=true->g a=true->g b=true):∀(l:List α) (p:α),(gS nm l p).filter (fun q=>g (nm q))=if g (nm p)=true then gS nm (l.filter fun q=>g (nm q)) p else l.filter fun q=>g (nm q)
  | [],p=>by by_cases e:g (nm p)=true <;> simp [gS,e]
  | q :: l, p => by
    have ih:=Us hup l p;by_cases e:eF (nm q) (nm p)=true
    . simp only [gS, e, aU, gJ, ih]
      by_cases e1:g (nm q)=true <;> by_cases e2:g (nm p)=true <;> simp [e1,e2,gS,e]
    by_cases e3:nm q=nm p
    . simp only [gS, e, e3, aU, bJ, gJ]
      by_cases e2:g (nm p)=true
      . simp [e2,gS,e3,oP]
      simp [e2,oP]
    simp only [gS,e,e3,bJ,gJ];have e4:=Wr (by simpa using e) e3;by_cases e2:g (nm p)=true
    . have e1 := hup _ _ e4 e2
      simp [e1,e2,gS,e,e3]
    by_cases e1:g (nm q)=true <;> simp [e1,e2,gS,e,e3]
theorem aMp(out:List α):∀a b,eF a b=true->rS nm out a=true->rS nm out b=true:=by
  intro a b h1 h2;unfold rS at *;split
  . rfl
  rename_i q hq;rw [hq] at h2;exact tD h2 h1
theorem aFl(l out:List α)(k:Nat)(h:k<l.length):Oc nm (l.take (k+1)) out=if rS nm out (nm l[k])=true then(match Oc nm (l.take k) out with | none=>some l[k] | some q=>if eF (nm q) (nm l[k])=true then some q else some l[k])else Oc nm (l.take k) out:=by
  unfold Oc;rw [Kr nm l k h,Us nm (aMp nm out)];split
  . cases (fY nm (l.take k)).filter fun p => rS nm out (nm p) with
    | nil=>rfl
    | cons q r =>
      simp only [gS,List.head?_cons]
      repeat' split
      all_goals rfl
  rfl
theorem aUn(l out:List α):Oc nm (l.take 0) out=none:=by simp [Oc,fY]
theorem aIg (l : List α) (k : Nat) (hk : k <= (fY nm l).length) : Oc nm l ((fY nm l).take k) = (fY nm l)[k]? := by
  have hs := jD nm l;unfold Oc;generalize fY nm l = S at *;have hd : (S.filter fun p => rS nm (S.take k) (nm p)) = S.drop k := by
    cases k with
    | zero=>simp [rS]
    | succ k =>
      have hl:(S.take (k+1)).getLast?=some S[k]:=by rw [bK S k (by omega),List.getLast?_concat]
      have hg:∀p,rS nm (S.take (k+1)) (nm p)=eF (nm S[k]) (nm p):=fun p=>by unfold rS;rw [hl]
      simp only [hg];have hsplit:∀q:α->Bool,S.filter q=(S.take (k+1)).filter q++(S.drop (k+1)).filter q:=fun q=>by rw [<- eP,fP]
      rw [hsplit];have hp:(S.take (k+1)++S.drop (k+1)).Pairwise fun a b=>eF (nm a) (nm b)=true:=by rw [fP];exact hs
      have h3:=Et.1 hp;have hmem:S[k]∈S.take (k+1):=by rw [bK S k (by omega)];exact uK _ (gO.2 rfl)
      have f2:(S.drop (k+1)).filter (fun p=>eF (nm S[k]) (nm p))=S.drop (k+1):=by
        rw [lT];exact fun x hx=>h3.2.2 _ hmem x hx
      have f1:(S.take (k+1)).filter (fun p=>eF (nm S[k]) (nm p))= []:=by
        rw [mQ];intro x hx;rw [bK S k (by omega)] at hx h3;rcases cK.1 hx with hx | hx
        . have := (Et.1 h3.1).2.2 x hx S[k] (by simp)
          rw [aBc this];simp
        simp at hx;subst hx;rw [oP];simp
      rw [f1,f2,aN]
  rw [hd,qW]
end
abbrev nA:AT->ByteArray:=AT.name
abbrev nP:PI->ByteArray:=PI.name
theorem cS(a b:Nat):Int.fdiv ((a:Int)+(b:Int)) (2 ^ min 1 IntKind.u64.bits)=(((a+b) / 2:Nat):Int):=by
  have e:(2:Int) ^ min 1 IntKind.u64.bits=2:=by decide
  rw [e,Int.fdiv_eq_ediv_of_nonneg _ (by omega)];omega
theorem aQg:IntKind.u64.min=0:=rfl
theorem aOx:IntKind.u64.max=18446744073709551615:=by decide
theorem cT(n:Int):inR .u64 n=(0<=n/\n<=18446744073709551615):=by
  show(IntKind.u64.min<=n/\n<=IntKind.u64.max)=_
  rw [aQg,aOx]
theorem Xd(s:ByteArray)(σ:List (List D))  :Ct prog 258 [D.str s] σ (fun r σ'=>r= .bool false/\σ'=σ):=by
  refine zf func258 ?_;refine bE fun _ _ Z=>?_;simp;apply Z;refine bE fun _ _ Z=>?_;simp;apply Z;apply aD;simp [aK]
theorem Nn(a b:ByteArray)(σ:List (List D))  :Ct prog 233 [D.str a,D.str b] σ (fun r σ'=>r= .int (Jq a b)/\σ'=σ):=by
  refine zf func233 ?_;refine bE fun _ _ Z=>?_;simp;apply Z;refine bE fun _ _ Z=>?_;refine zs 1 fun _ Y=>?_;simp;apply Y;refine aE fun _ Y=>?_;simp;refine cB (Xd a _) ?_;apply Y;simp;apply Z;refine bE fun _ _ Z=>?_;refine zs 1 fun _ Y=>?_;simp;apply Y;refine aE fun _ Y=>?_;simp;refine cB (Xd b _) ?_;apply Y;simp;apply Z;apply aF;refine bE fun _ _ Z=>?_;simp;apply Z;refine zI ?_ ?_<;>intro c1<;>try simp at c1
  apply zA;apply aF;refine bE fun _ _ Z=>?_;simp;apply Z;refine zI ?_ ?_<;>intro c2<;>try simp at c2
  apply zA;apply aF;refine bE fun _ _ Z=>?_;simp;apply Z;refine zI ?_ ?_<;>intro c3<;>try simp at c3
  . refine zk [0,1,4] ?_
    refine bE fun _ _ Z=>?_;simp;apply Z;apply aD;simp [aK,Jq,eF, *]
  apply zA;apply aF;refine zk [0,1,4] ?_;refine bE fun _ _ Z=>?_;simp;apply Z;refine zI ?_ ?_<;>intro c4<;>try simp at c4
  . refine bE fun _ _ Z=>?_
    simp;apply Z;apply aD;simp [aK,Jq,eF, *]
  apply zA;refine bE fun _ _ Z=>?_;simp;apply Z;apply aD;simp [aK,Jq,eF, *]
theorem aCe(x:AT)(s:ByteArray)(σ:List (List D))  :Ct prog 232 [dU x,D.str s] σ (fun r σ'=>r= .int (Jq x.name s)/\σ'=σ):=by
  refine zf func232 ?_;refine bE fun _ _ Z=>?_;simp;apply Z;refine bE fun _ _ Z=>?_;refine zs 3 fun _ Y=>?_;simp;apply Y;refine aE fun _ Y=>?_;simp;refine cB (Nn x.name s _) ?_;apply Y;simp;apply Z;apply aD;simp [aK]
@[simp] abbrev q35_1:Cfg:=⟨[],[],[],[13,27,43],[]⟩
theorem aVb (N cap : Nat) (l : List AT) (rest : List D) (c : ByteArray) (σ : List (List D)) (hl : l.length <= 1000000) (hN : σ[N]? = some (l.flatMap cA ++ rest)) (hs : Sorted nA l) : Ct prog 231 [.slo N 0 l.length cap, D.str c, .clo (.func 232) [] []] σ (fun r σ' => r = .tup [.int ((lO nA l c : Nat) : Int), .bool (Kv nA l c)] /\ σ' = σ) := by
  refine zf func231 ?_;refine zr q35_1 fun _ _ Z=>?_;simp(disch:=omega)[hN,cS,cT];apply Z;refine zr q35_1 fun _ _ Z=>?_;simp(disch:=omega)[hN,cS,cT];and_intros<;>(try omega);apply Z;refine zr q35_1 fun _ _ Z=>?_;simp(disch:=omega)[hN,cS,cT];apply Z;apply Ea;refine zk [0,1,2,6,7,8,9,10] ?_;refine aZ (fun(s:Nat×Nat)=> [(9,.d (.v (.int .i64 (s.1:Int)))),(10,.d (.v (.int .i64 (s.2:Int)))),(11,.d (.any))]) [9,10,11,15,16,17,18,19,20,21,22,23,24,25,26,27,28,29,30,31,32,33,34] (fun(s:Nat×Nat)=>s.1<=s.2/\s.2<=l.length/\(∀j (h:j<l.length),j<s.1->eF l[j].name c=true)/\(∀j (h:j<l.length),s.2<=j->eF l[j].name c=false)) (fun(s:Nat×Nat)=>s.2 - s.1) ((0,l.length)) (by simp <;> rfl) ?_ ?_ ?_
  . simp
  . exact⟨by omega,by omega,fun j h h2=>absurd h2 (by simp),fun j h h2=>absurd h2 (by simp;omega)⟩
  rintro⟨lo,hi⟩ ⟨h1,h2,h3,h4⟩;simp only [aP,aN];dsimp only at h1 h2 h3 h4;have hmid:lo<hi->(lo+hi) / 2<hi:=fun h=>by omega
  apply aF;refine zr q35_1 fun _ _ Z=>?_;simp(disch:=omega)[hN,cS,cT];apply Z;refine zI ?_ ?_<;>intro c1<;>try simp at c1
  . apply zA
    apply aS;refine zk [0,1,2,6,7,8,9,10,11] ?_;refine zr q35_1 fun _ _ Z=>?_;simp(disch:=omega)[hN,cS,cT];and_intros<;>(try omega);apply Z;refine zk [0,1,2,6,7,8,9,10,11] ?_;refine zr q35_1 fun _ _ Z=>?_;refine zs 6 fun _ Y=>?_;simp(disch:=omega)[hN,cS,cT];and_intros<;>(try omega);apply Y;refine aE fun _ Y=>?_;simp(disch:=omega)[hN,cS,cT];refine cB (aCe l[(lo+hi) / 2] c _) ?_;apply Y;simp(disch:=omega)[hN,cS,cT];apply Z;refine zI ?_ ?_<;>intro c2<;>try simp at c2
    . refine zk [0,1,2,6,7,8,9,10,11] ?_
      refine zt q35_1 fun _ _ Z=>?_;simp(disch:=omega)[hN,cS,cT];and_intros<;>(try omega);apply Z;apply gQ;refine zq (((lo+hi) / 2+1,hi)) ?_ ?_ ?_
      . exact⟨by dsimp only;omega,by dsimp only;omega,aSi nA hs (by omega) (by simpa [Jl] using c2),h4⟩
      . try dsimp only
        omega
      simp(disch:=omega)[hN,cS,cT]
    refine zk [0,1,2,6,7,8,9,10,11] ?_;refine zt q35_1 fun _ _ Z=>?_;simp(disch:=omega)[hN,cS,cT];apply Z;apply gQ;refine zq ((lo,(lo+hi) / 2)) ?_ ?_ ?_
    . exact⟨by dsimp only;omega,by dsimp only;omega,h3,aSf nA hs (by omega) ((aCq _ _).1 (by omega))⟩
    . try dsimp only
      omega
    simp(disch:=omega)[hN,cS,cT]
  obtain rfl:lo=hi:=by omega
  have hpos:lO nA l c=lo:=Ts nA l c lo h2 h3 (fun h=>h4 lo h (aV _));apply zE;refine zk [0,1,2,6,7,8,9] ?_;refine pB q35_1 fun all hall _ Z=>?_;have ga4:aT all 4=some 39:=hall 4;refine zs 5 fun _ Y=>?_;simp(disch:=omega)[hN,cS,cT,ga4];apply Y;refine zb 39 ?_ ?_<;>intro g3<;>try simp at g3
  . refine zs 6 fun _ Y=>?_
    simp(disch:=omega)[hN,cS,cT,ga4];and_intros<;>(try omega);apply Y;refine zg ga4 fun _ Y=>?_;simp(disch:=omega)[hN,cS,cT,ga4];refine cB (aCe l[lo] c _) ?_;apply Y;simp(disch:=omega)[hN,cS,cT,ga4];apply Z;apply aD;simp [aK,hpos,Sx, *];exact Pp _ _
  refine zs 8 fun _ Y=>?_;simp(disch:=omega)[hN,cS,cT,ga4];and_intros<;>(try omega);apply Y;simp(disch:=omega)[hN,cS,cT,ga4];apply Z;apply aD;simp [aK,hpos, *];exact Jf _ _ _ (by omega)
theorem Ty(N cap:Nat)(l:List AT)(rest:List D)(c:ByteArray)(σ:List (List D))(hl:l.length<=1000000)(hN:σ[N]?=some (l.flatMap cA++rest))(hs:Sorted nA l):Ct prog 198 [.slo N 0 l.length cap,D.str c] σ (fun r σ'=>r= .tup [.int ((lO nA l c:Nat):Int),.bool (Kv nA l c)]/\σ'=σ):=by
  refine zf func198 ?_;refine bE fun _ _ Z=>?_;simp[hN];apply Z;refine bE fun _ _ Z=>?_;refine zs 2 fun _ Y=>?_;simp[hN];apply Y;refine aE fun _ Y=>?_;simp[hN];refine cB (aVb N cap l rest c _ hl hN hs) ?_;apply Y;simp[hN];apply Z;apply aD;simp [aK]
@[simp] abbrev q35_2:Cfg:=⟨[4,19,20,24],[],[],[18],[]⟩
theorem aJu(l:List AT)(p:AT)(σ:List (List D))(hl:l.length<=999999)(hs:Sorted nA l):Ct prog 187 [.xs 2 (l.map dU),dU p] σ (fun r σ'=>r= .xs 2 ((gS nA l p).map dU)/\∃J,σ'=σ++J):=by
  refine zf func187 ?_;refine gW 0 2 rfl (by decide) fun cap rest hcap hcm hrest hk0 hes=>?_;subst hrest;simp only [bI] at hcap |-;rw [cW (f:=cA) (fun _=>rfl)];have hpl:=Tv nA l p.name;refine zr q35_2 fun _ _ Z=>?_;simp(disch:=omega)[aL,aJ];apply Z;refine zr q35_2 fun _ _ Z=>?_;refine zs 3 fun _ Y=>?_;simp(disch:=omega)[aL,aJ];apply Y;refine aE fun _ Y=>?_;simp(disch:=omega)[aL,aJ];refine cB (Ty σ.length cap l (List.replicate ((cap - l.length) * 2) .any) p.name _ (by omega) (by simp [aL]) hs) ?_;apply Y;simp(disch:=omega)[aL,aJ];apply Z;apply aF;refine zr q35_2 fun _ _ Z=>?_;simp(disch:=omega)[aL,aJ];apply Z;refine zI ?_ ?_<;>intro c1<;>try simp at c1
  . have hlt := Bm nA c1
    refine zk [0,3,4,5] ?_;refine zr q35_2 fun _ _ Z=>?_;simp(disch:=omega)[aL,aJ];and_intros<;>(try omega);apply Z;refine zr q35_2 fun _ _ Z=>?_;simp(disch:=omega)[aL,aJ];apply Z;refine eW 4 2 σ.length l.length cap ((l.set (lO nA l p.name) p).map dU) ((l.set (lO nA l p.name) p).flatMap cA++List.replicate ((cap - l.length) * 2) .any) (by simp <;> rfl) (by simp [aL]) (by omega) (by simp only [bB,dJ (f:=cA) (k:=2) (fun _=>rfl),dC,cV];omega) (by simp) (mC (d:=dU) (fun _=>⟨rfl,rfl⟩) _) (by rw [cW (f:=cA) (fun _=>rfl)];exact cD _ _) ?_;apply aD;simp [aK,Du,c1]
  apply zA;refine eW 0 2 σ.length l.length cap (l.map dU) (l.flatMap cA++List.replicate ((cap - l.length) * 2) .any) (by simp <;> rfl) (by simp [aL]) (by omega) (by simp only [bB,dJ (f:=cA) (k:=2) (fun _=>rfl),dC,cV];omega) (by simp) (mC (d:=dU) (fun _=>⟨rfl,rfl⟩) _) (by rw [cW (f:=cA) (fun _=>rfl)];exact cD _ _) ?_;refine zk [0,3,4,5] ?_;refine zr q35_2 fun _ _ Z=>?_;refine zs 4 fun _ Y=>?_;simp(disch:=omega)[aL,aJ];and_intros<;>(try omega);apply Y;refine aE fun _ Y=>?_;simp(disch:=omega)[aL,aJ];refine cB (aR4 l p (lO nA l p.name) _ (by omega) hpl) ?_;apply Y;simp(disch:=omega)[aL,aJ];apply Z;apply aD;simp [aK,Du,c1]
theorem aC2(l:List AT)(p:AT)(σ:List (List D))(hl:l.length<=999999)(hs:Sorted nA l):Ct prog 187 [.xs 2 (l.map dU),dU p] σ (fun r σ'=>r= .xs 2 ((gS nA l p).map dU)/\σ'=σ):=
  (aJu l p σ hl hs).trim fun r σ' ⟨hr,J,hs⟩=>⟨σ,J,hs,rfl,by rw [hr];exact aU3 _ _,fun n cs h=> .inl h,hr,rfl⟩
theorem xJ(l:List AT)(rest:List D)(i:Nat)(h:i<l.length):An false 1 ((l.flatMap cA++rest).drop (i * 2+1))=some (D.str l[i].value):=Ug (f:=cA) (k:=2) (fun _=>rfl) l rest i 1 h (by decide)
@[simp] abbrev q35_3:Cfg:=⟨[2,3,12,14,16],[],[],[],[]⟩
theorem Lv(l:List AT)(σ:List (List D))(hl:l.length<=999999):Ct prog 107 [.sl false (l.map dU)] σ (fun r σ'=>r= .xs 2 ((fY nA l).map dU)/\σ'=σ):=by
  refine zf func107 ?_;refine zr q35_3 fun _ _ Z=>?_;simp(disch:=omega);apply Z;refine zr q35_3 fun _ _ Z=>?_;simp(disch:=omega);apply Z;apply aF;refine zr q35_3 fun _ _ Z=>?_;simp(disch:=omega);and_intros<;>(try omega);apply Z;apply aS;refine zk [2,3,6,7,8] ?_;refine vW 3 2 (by simp <;> rfl) ?_;refine aZ (fun(k:Nat)=> [(8,.d (.v (.int .i64 (k:Int)))),(3,.d (.xs 2 ((fY nA (l.take k)).map dU)))]) [3,5,8,9,10,11,12,13,14,15] (fun(k:Nat)=>k<=l.length) (fun(k:Nat)=>l.length - k) (0) (by simp <;> rfl) ?_ ?_ ?_
  . simp [fY]
  . simp
  rintro k hk;simp only [aP,aN];have hol:=gZ nA (l.take k);simp only [bF] at hol;refine zr q35_3 fun _ _ Z=>?_;simp(disch:=omega);apply Z;apply aF;refine zI ?_ ?_<;>intro c1<;>try simp at c1
  . apply kR
    refine zr q35_3 fun _ _ Z=>?_;simp(disch:=omega);and_intros<;>(try omega);apply Z;refine zt q35_3 fun _ _ Z=>?_;refine zs 2 fun _ Y=>?_;simp(disch:=omega);apply Y;refine aE fun _ Y=>?_;simp(disch:=omega);refine cB (aC2 (fY nA (l.take k)) l[k] _ (by omega) (jD nA _)) ?_;apply Y;simp(disch:=omega);apply Z;apply zB;refine zk [2,3,6,7,8] ?_;refine zt q35_3 fun _ _ Z=>?_;simp(disch:=omega);and_intros<;>(try omega);apply Z;refine zq (k+1) ?_ ?_ ?_
    . omega
    . try dsimp only
      omega
    simp(disch:=omega)[Kr]
  apply zE;refine zr q35_3 fun _ _ Z=>?_;simp(disch:=omega);apply Z;apply aD;simp [aK];rw [bL (by omega)]
@[simp] abbrev q35_4:Cfg:=⟨[6,11],[],[],[21],[]⟩
theorem aOb(l:List AT)(c:ByteArray)(σ:List (List D))(hl:l.length<=999999):Ct prog 234 [.sl false (l.map dU),D.str c] σ (fun r σ'=>(∃v:ByteArray,r= .tup [D.str v,.bool (Kv nA (fY nA l) c)])/\∃J,σ'=σ++J):=by
  refine zf func234 ?_;have hol:=gZ nA l;refine zr q35_4 fun _ _ Z=>?_;simp(disch:=omega)[aL,aJ,xJ];apply Z;refine zr q35_4 fun _ _ Z=>?_;refine zs 1 fun _ Y=>?_;simp(disch:=omega)[aL,aJ,xJ];apply Y;refine aE fun _ Y=>?_;simp(disch:=omega)[aL,aJ,xJ];refine cB (Lv l _ hl) ?_;apply Y;simp(disch:=omega)[aL,aJ,xJ];apply Z;apply aF;refine gW 6 2 rfl (by decide) fun cap rest hcap hcm hrest hk0 hes=>?_;subst hrest;simp only [bI] at hcap |-;rw [cW (f:=cA) (fun _=>rfl)];refine zr q35_4 fun _ _ Z=>?_;refine zs 2 fun _ Y=>?_;simp(disch:=omega)[aL,aJ,xJ];apply Y;refine aE fun _ Y=>?_;simp(disch:=omega)[aL,aJ,xJ];refine cB (Ty σ.length cap (fY nA l) (List.replicate ((cap - (fY nA l).length) * 2) .any) c _ (by omega) (by simp [aL]) (jD nA l)) ?_;apply Y;simp(disch:=omega)[aL,aJ,xJ];apply Z;refine zk [4,5,6,7,8] ?_;refine zr q35_4 fun _ _ Z=>?_;simp(disch:=omega)[aL,aJ,xJ];apply Z;refine zI ?_ ?_<;>intro c1<;>try simp at c1
  . have hlt := Bm nA c1
    refine zr q35_4 fun _ _ Z=>?_;simp(disch:=omega)[aL,aJ,xJ];and_intros<;>(try omega);apply Z;apply aD;simp [aK,c1]
  apply zA;refine zr q35_4 fun _ _ Z=>?_;simp(disch:=omega)[aL,aJ,xJ];apply Z;refine zr q35_4 fun _ _ Z=>?_;simp(disch:=omega)[aL,aJ,xJ];apply Z;apply aD;simp [aK,c1]
theorem aBs(l:List AT)(c:ByteArray)(σ:List (List D))(hl:l.length<=999999)(hs:Sorted nA l):Ct prog 234 [.sl false (l.map dU),D.str c] σ (fun r σ'=>(∃v:ByteArray,r= .tup [D.str v,.bool (jJ nA l c)])/\σ'=σ):=
  (aOb l c σ hl).trim fun r σ' ⟨⟨v,hr⟩,J,hs'⟩=>⟨σ,J,hs',rfl,by rw [hr];exact Sc.tup fun d hd=>by simp at hd;rcases hd with rfl | rfl <;> exact Sc.v _,fun n cs h=> .inl h,⟨v,by rw [hr,rT nA hs,Iz nA hs]⟩,rfl⟩
theorem aMq(l:List AT)(c:ByteArray)(v:ByteArray)(σ:List (List D))(hl:l.length<=99999):Ct prog 182 [.sl false (l.map dU),D.str c,D.str v] σ (fun r σ'=>r= .xs 2 ((gS nA (fY nA l) ⟨c,v⟩).map dU)/\σ'=σ):=by
  refine zf func182 ?_;have hol:=gZ nA l;refine zr ⟨[6,9,10,12],[],[],[],[]⟩ fun _ _ Z=>?_;simp;apply Z;refine zr ⟨[6,9,10,12],[],[],[],[]⟩ fun _ _ Z=>?_;refine zs 1 fun _ Y=>?_;simp;apply Y;refine aE fun _ Y=>?_;simp;refine cB (Lv l _ (by omega)) ?_;apply Y;refine zs 3 fun _ Y=>?_;simp;apply Y;refine aE fun _ Y=>?_;simp;refine cB (aC2 (fY nA l) ⟨c,v⟩ _ (by omega) (jD nA l)) ?_;apply Y;simp;apply Z;apply aD;simp [aK]
theorem aRm(l:List AT)(p:AT->Bool)(f:FuncId)(caps:List D)(σ:List (List D))(hl:l.length<=99999)(hcp:∀d∈caps,d.plain=true)(hcs:caps.map D.strip=caps)(hp:∀x τ,Ct prog f (dU x::caps) τ (fun r τ'=>r= .bool (p x)/\τ'=τ)):Ct prog 259 [.sl false (l.map dU),.clo (.func f) [] caps] σ (fun r σ'=>r= .xs 2 (((fY nA l).filter fun x=> !p x).map dU)/\σ'=σ):=by
  refine zf func259 ?_;have hol:=gZ nA l;refine zr ⟨[4,7,8],[],[],[],[]⟩ fun _ _ Z=>?_;simp;apply Z;refine zr ⟨[4,7,8],[],[],[],[]⟩ fun _ _ Z=>?_;refine zs 1 fun _ Y=>?_;simp;apply Y;refine aE fun _ Y=>?_;simp;refine cB (Lv l _ (by omega)) ?_;apply Y;refine zs 1 fun _ Y=>?_;simp;apply Y;refine aE fun _ Y=>?_;simp;refine cB (Zn (fY nA l) p f caps _ (by omega) hcp hcs hp) ?_;apply Y;simp;apply Z;apply aD;simp [aK]
theorem aGu(x:AT)(c:ByteArray)(σ:List (List D))  :Ct prog 260 [dU x,.adr [D.str c]] σ (fun r σ'=>r= .bool (decide (x.name=c))/\σ'=σ):=by
  refine zf func260 ?_;refine bE fun _ _ Z=>?_;simp;apply Z;refine bE fun _ _ Z=>?_;simp;apply Z;apply aD;simp[aK]
theorem aDt(l:List AT)(c:ByteArray)(σ:List (List D))(hl:l.length<=99999):Ct prog 235 [.sl false (l.map dU),D.str c] σ (fun r σ'=>r= .xs 2 ((lN nA (fY nA l) c).map dU)/\σ'=σ):=by
  refine zf func235 ?_;refine zr ⟨[4],[3],[],[],[]⟩ fun _ _ Z=>?_;simp;apply Z;refine zr ⟨[4],[3],[],[],[]⟩ fun _ _ Z=>?_;refine zs 2 fun _ Y=>?_;simp;and_intros<;>(try omega);apply Y;refine aE fun _ Y=>?_;simp;refine cB (aRm l (fun x=>decide (x.name=c)) 260 [.adr [D.str c]] _ hl (by simp) (by simp) (fun x τ=>aGu x c τ)) ?_;apply Y;simp;apply Z;apply aD;simp [aK,lN]
theorem aPz(l:List AT)(c:ByteArray)(v:ByteArray)(σ:List (List D))(hl:l.length<=99999)(hs:Sorted nA l):Ct prog 182 [.sl false (l.map dU),D.str c,D.str v] σ (fun r σ'=>r= .sl false ((gS nA l ⟨c,v⟩).map dU)/\σ'=σ):=
  (aMq l c v σ hl).freeze fun r σ' h=>by rw [rT nA hs] at h;exact h
theorem aKs(l:List AT)(c:ByteArray)(σ:List (List D))(hl:l.length<=99999)(hs:Sorted nA l):Ct prog 235 [.sl false (l.map dU),D.str c] σ (fun r σ'=>r= .sl false ((lN nA l c).map dU)/\σ'=σ):=
  (aDt l c σ hl).freeze fun r σ' h=>by rw [rT nA hs] at h;exact h
theorem aCc(x:PI)(s:ByteArray)(σ:List (List D))  :Ct prog 237 [cM x,D.str s] σ (fun r σ'=>r= .int (Jq x.name s)/\σ'=σ):=by
  refine zf func237 ?_;refine bE fun _ _ Z=>?_;simp;apply Z;refine bE fun _ _ Z=>?_;refine zs 3 fun _ Y=>?_;simp;apply Y;refine aE fun _ Y=>?_;simp;refine cB (Nn x.name s _) ?_;apply Y;simp;apply Z;apply aD;simp [aK]
theorem aTh (N cap : Nat) (l : List PI) (rest : List D) (c : ByteArray) (σ : List (List D)) (hl : l.length <= 1000000) (hN : σ[N]? = some (l.flatMap cP ++ rest)) (hs : Sorted nP l) : Ct prog 236 [.slo N 0 l.length cap, D.str c, .clo (.func 237) [] []] σ (fun r σ' => r = .tup [.int ((lO nP l c : Nat) : Int), .bool (Kv nP l c)] /\ σ' = σ) := by
  refine zf func236 ?_;refine zr q35_1 fun _ _ Z=>?_;simp(disch:=omega)[hN,cS,cT];apply Z;refine zr q35_1 fun _ _ Z=>?_;simp(disch:=omega)[hN,cS,cT];and_intros<;>(try omega);apply Z;refine zr q35_1 fun _ _ Z=>?_;simp(disch:=omega)[hN,cS,cT];apply Z;apply Ea;refine zk [0,1,2,6,7,8,9,10] ?_;refine aZ (fun(s:Nat×Nat)=> [(9,.d (.v (.int .i64 (s.1:Int)))),(10,.d (.v (.int .i64 (s.2:Int)))),(11,.d (.any))]) [9,10,11,15,16,17,18,19,20,21,22,23,24,25,26,27,28,29,30,31,32,33,34] (fun(s:Nat×Nat)=>s.1<=s.2/\s.2<=l.length/\(∀j (h:j<l.length),j<s.1->eF l[j].name c=true)/\(∀j (h:j<l.length),s.2<=j->eF l[j].name c=false)) (fun(s:Nat×Nat)=>s.2 - s.1) ((0,l.length)) (by simp <;> rfl) ?_ ?_ ?_
  . simp
  . exact⟨by omega,by omega,fun j h h2=>absurd h2 (by simp),fun j h h2=>absurd h2 (by simp;omega)⟩
  rintro⟨lo,hi⟩ ⟨h1,h2,h3,h4⟩;simp only [aP,aN];dsimp only at h1 h2 h3 h4;have hmid:lo<hi->(lo+hi) / 2<hi:=fun h=>by omega
  apply aF;refine zr q35_1 fun _ _ Z=>?_;simp(disch:=omega)[hN,cS,cT];apply Z;refine zI ?_ ?_<;>intro c1<;>try simp at c1
  . apply zA
    apply aS;refine zk [0,1,2,6,7,8,9,10,11] ?_;refine zr q35_1 fun _ _ Z=>?_;simp(disch:=omega)[hN,cS,cT];and_intros<;>(try omega);apply Z;refine zk [0,1,2,6,7,8,9,10,11] ?_;refine zr q35_1 fun _ _ Z=>?_;refine zs 6 fun _ Y=>?_;simp(disch:=omega)[hN,cS,cT];and_intros<;>(try omega);apply Y;refine aE fun _ Y=>?_;simp(disch:=omega)[hN,cS,cT];refine cB (aCc l[(lo+hi) / 2] c _) ?_;apply Y;simp(disch:=omega)[hN,cS,cT];apply Z;refine zI ?_ ?_<;>intro c2<;>try simp at c2
    . refine zk [0,1,2,6,7,8,9,10,11] ?_
      refine zt q35_1 fun _ _ Z=>?_;simp(disch:=omega)[hN,cS,cT];and_intros<;>(try omega);apply Z;apply gQ;refine zq (((lo+hi) / 2+1,hi)) ?_ ?_ ?_
      . exact⟨by dsimp only;omega,by dsimp only;omega,aSi nP hs (by omega) (by simpa [Jl] using c2),h4⟩
      . try dsimp only
        omega
      simp(disch:=omega)[hN,cS,cT]
    refine zk [0,1,2,6,7,8,9,10,11] ?_;refine zt q35_1 fun _ _ Z=>?_;simp(disch:=omega)[hN,cS,cT];apply Z;apply gQ;refine zq ((lo,(lo+hi) / 2)) ?_ ?_ ?_
    . exact⟨by dsimp only;omega,by dsimp only;omega,h3,aSf nP hs (by omega) ((aCq _ _).1 (by omega))⟩
    . try dsimp only
      omega
    simp(disch:=omega)[hN,cS,cT]
  obtain rfl:lo=hi:=by omega
  have hpos:lO nP l c=lo:=Ts nP l c lo h2 h3 (fun h=>h4 lo h (aV _));apply zE;refine zk [0,1,2,6,7,8,9] ?_;refine pB q35_1 fun all hall _ Z=>?_;have ga4:aT all 4=some 39:=hall 4;refine zs 5 fun _ Y=>?_;simp(disch:=omega)[hN,cS,cT,ga4];apply Y;refine zb 39 ?_ ?_<;>intro g3<;>try simp at g3
  . refine zs 6 fun _ Y=>?_
    simp(disch:=omega)[hN,cS,cT,ga4];and_intros<;>(try omega);apply Y;refine zg ga4 fun _ Y=>?_;simp(disch:=omega)[hN,cS,cT,ga4];refine cB (aCc l[lo] c _) ?_;apply Y;simp(disch:=omega)[hN,cS,cT,ga4];apply Z;apply aD;simp [aK,hpos,Sx, *];exact Pp _ _
  refine zs 8 fun _ Y=>?_;simp(disch:=omega)[hN,cS,cT,ga4];and_intros<;>(try omega);apply Y;simp(disch:=omega)[hN,cS,cT,ga4];apply Z;apply aD;simp [aK,hpos, *];exact Jf _ _ _ (by omega)
theorem Sz(N cap:Nat)(l:List PI)(rest:List D)(c:ByteArray)(σ:List (List D))(hl:l.length<=1000000)(hN:σ[N]?=some (l.flatMap cP++rest))(hs:Sorted nP l):Ct prog 201 [.slo N 0 l.length cap,D.str c] σ (fun r σ'=>r= .tup [.int ((lO nP l c:Nat):Int),.bool (Kv nP l c)]/\σ'=σ):=by
  refine zf func201 ?_;refine bE fun _ _ Z=>?_;simp[hN];apply Z;refine bE fun _ _ Z=>?_;refine zs 2 fun _ Y=>?_;simp[hN];apply Y;refine aE fun _ Y=>?_;simp[hN];refine cB (aTh N cap l rest c _ hl hN hs) ?_;apply Y;simp[hN];apply Z;apply aD;simp [aK]
theorem aOg(l:List PI)(p:PI)(σ:List (List D))(hl:l.length<=999999)(hs:Sorted nP l):Ct prog 188 [.xs 2 (l.map cM),cM p] σ (fun r σ'=>r= .xs 2 ((gS nP l p).map cM)/\∃J,σ'=σ++J):=by
  refine zf func188 ?_;refine gW 0 2 rfl (by decide) fun cap rest hcap hcm hrest hk0 hes=>?_;subst hrest;simp only [bI] at hcap |-;rw [cW (f:=cP) (fun _=>rfl)];have hpl:=Tv nP l p.name;refine zr q35_2 fun _ _ Z=>?_;simp(disch:=omega)[aL,aJ];apply Z;refine zr q35_2 fun _ _ Z=>?_;refine zs 3 fun _ Y=>?_;simp(disch:=omega)[aL,aJ];apply Y;refine aE fun _ Y=>?_;simp(disch:=omega)[aL,aJ];refine cB (Sz σ.length cap l (List.replicate ((cap - l.length) * 2) .any) p.name _ (by omega) (by simp [aL]) hs) ?_;apply Y;simp(disch:=omega)[aL,aJ];apply Z;apply aF;refine zr q35_2 fun _ _ Z=>?_;simp(disch:=omega)[aL,aJ];apply Z;refine zI ?_ ?_<;>intro c1<;>try simp at c1
  . have hlt := Bm nP c1
    refine zk [0,3,4,5] ?_;refine zr q35_2 fun _ _ Z=>?_;simp(disch:=omega)[aL,aJ];and_intros<;>(try omega);apply Z;refine zr q35_2 fun _ _ Z=>?_;simp(disch:=omega)[aL,aJ];apply Z;refine eW 4 2 σ.length l.length cap ((l.set (lO nP l p.name) p).map cM) ((l.set (lO nP l p.name) p).flatMap cP++List.replicate ((cap - l.length) * 2) .any) (by simp <;> rfl) (by simp [aL]) (by omega) (by simp only [bB,dJ (f:=cP) (k:=2) (fun _=>rfl),dC,cV];omega) (by simp) (mC (d:=cM) (fun _=>⟨rfl,rfl⟩) _) (by rw [cW (f:=cP) (fun _=>rfl)];exact cD _ _) ?_;apply aD;simp [aK,Du,c1]
  apply zA;refine eW 0 2 σ.length l.length cap (l.map cM) (l.flatMap cP++List.replicate ((cap - l.length) * 2) .any) (by simp <;> rfl) (by simp [aL]) (by omega) (by simp only [bB,dJ (f:=cP) (k:=2) (fun _=>rfl),dC,cV];omega) (by simp) (mC (d:=cM) (fun _=>⟨rfl,rfl⟩) _) (by rw [cW (f:=cP) (fun _=>rfl)];exact cD _ _) ?_;refine zk [0,3,4,5] ?_;refine zr q35_2 fun _ _ Z=>?_;refine zs 4 fun _ Y=>?_;simp(disch:=omega)[aL,aJ];and_intros<;>(try omega);apply Y;refine aE fun _ Y=>?_;simp(disch:=omega)[aL,aJ];refine cB (aQs l p (lO nP l p.name) _ (by omega) hpl) ?_;apply Y;simp(disch:=omega)[aL,aJ];apply Z;apply aD;simp [aK,Du,c1]
theorem aCg(l:List PI)(p:PI)(σ:List (List D))(hl:l.length<=999999)(hs:Sorted nP l):Ct prog 188 [.xs 2 (l.map cM),cM p] σ (fun r σ'=>r= .xs 2 ((gS nP l p).map cM)/\σ'=σ):=
  (aOg l p σ hl hs).trim fun r σ' ⟨hr,J,hs⟩=>⟨σ,J,hs,rfl,by rw [hr];exact aS2 _ _,fun n cs h=> .inl h,hr,rfl⟩
theorem xK(l:List PI)(rest:List D)(i:Nat)(h:i<l.length):An false 1 ((l.flatMap cP++rest).drop (i * 2+1))=some (D.int l[i].value):=Ug (f:=cP) (k:=2) (fun _=>rfl) l rest i 1 h (by decide)
theorem Mm(l:List PI)(σ:List (List D))(hl:l.length<=999999):Ct prog 108 [.sl false (l.map cM)] σ (fun r σ'=>r= .xs 2 ((fY nP l).map cM)/\σ'=σ):=by
  refine zf func108 ?_;refine zr q35_3 fun _ _ Z=>?_;simp(disch:=omega);apply Z;refine zr q35_3 fun _ _ Z=>?_;simp(disch:=omega);apply Z;apply aF;refine zr q35_3 fun _ _ Z=>?_;simp(disch:=omega);and_intros<;>(try omega);apply Z;apply aS;refine zk [2,3,6,7,8] ?_;refine vW 3 2 (by simp <;> rfl) ?_;refine aZ (fun(k:Nat)=> [(8,.d (.v (.int .i64 (k:Int)))),(3,.d (.xs 2 ((fY nP (l.take k)).map cM)))]) [3,5,8,9,10,11,12,13,14,15] (fun(k:Nat)=>k<=l.length) (fun(k:Nat)=>l.length - k) (0) (by simp <;> rfl) ?_ ?_ ?_
  . simp [fY]
  . simp
  rintro k hk;simp only [aP,aN];have hol:=gZ nP (l.take k);simp only [bF] at hol;refine zr q35_3 fun _ _ Z=>?_;simp(disch:=omega);apply Z;apply aF;refine zI ?_ ?_<;>intro c1<;>try simp at c1
  . apply kR
    refine zr q35_3 fun _ _ Z=>?_;simp(disch:=omega);and_intros<;>(try omega);apply Z;refine zt q35_3 fun _ _ Z=>?_;refine zs 2 fun _ Y=>?_;simp(disch:=omega);apply Y;refine aE fun _ Y=>?_;simp(disch:=omega);refine cB (aCg (fY nP (l.take k)) l[k] _ (by omega) (jD nP _)) ?_;apply Y;simp(disch:=omega);apply Z;apply zB;refine zk [2,3,6,7,8] ?_;refine zt q35_3 fun _ _ Z=>?_;simp(disch:=omega);and_intros<;>(try omega);apply Z;refine zq (k+1) ?_ ?_ ?_
    . omega
    . try dsimp only
      omega
    simp(disch:=omega)[Kr]
  apply zE;refine zr q35_3 fun _ _ Z=>?_;simp(disch:=omega);apply Z;apply aD;simp [aK];rw [bL (by omega)]
theorem aOj(l:List PI)(c:ByteArray)(σ:List (List D))(hl:l.length<=999999):Ct prog 239 [.sl false (l.map cM),D.str c] σ (fun r σ'=>(∃v:Int,r= .tup [D.int v,.bool (Kv nP (fY nP l) c)])/\∃J,σ'=σ++J):=by
  refine zf func239 ?_;have hol:=gZ nP l;refine zr q35_4 fun _ _ Z=>?_;simp(disch:=omega)[aL,aJ,xK];apply Z;refine zr q35_4 fun _ _ Z=>?_;refine zs 1 fun _ Y=>?_;simp(disch:=omega)[aL,aJ,xK];apply Y;refine aE fun _ Y=>?_;simp(disch:=omega)[aL,aJ,xK];refine cB (Mm l _ hl) ?_;apply Y;simp(disch:=omega)[aL,aJ,xK];apply Z;apply aF;refine gW 6 2 rfl (by decide) fun cap rest hcap hcm hrest hk0 hes=>?_;subst hrest;simp only [bI] at hcap |-;rw [cW (f:=cP) (fun _=>rfl)];refine zr q35_4 fun _ _ Z=>?_;refine zs 2 fun _ Y=>?_;simp(disch:=omega)[aL,aJ,xK];apply Y;refine aE fun _ Y=>?_;simp(disch:=omega)[aL,aJ,xK];refine cB (Sz σ.length cap (fY nP l) (List.replicate ((cap - (fY nP l).length) * 2) .any) c _ (by omega) (by simp [aL]) (jD nP l)) ?_;apply Y;simp(disch:=omega)[aL,aJ,xK];apply Z;refine zk [4,5,6,7,8] ?_;refine zr q35_4 fun _ _ Z=>?_;simp(disch:=omega)[aL,aJ,xK];apply Z;refine zI ?_ ?_<;>intro c1<;>try simp at c1
  . have hlt := Bm nP c1
    refine zr q35_4 fun _ _ Z=>?_;simp(disch:=omega)[aL,aJ,xK];and_intros<;>(try omega);apply Z;apply aD;simp [aK,c1]
  apply zA;refine zr q35_4 fun _ _ Z=>?_;simp(disch:=omega)[aL,aJ,xK];apply Z;refine zr q35_4 fun _ _ Z=>?_;simp(disch:=omega)[aL,aJ,xK];apply Z;apply aD;simp [aK,c1]
theorem aCy(l:List PI)(c:ByteArray)(σ:List (List D))(hl:l.length<=999999)(hs:Sorted nP l):Ct prog 239 [.sl false (l.map cM),D.str c] σ (fun r σ'=>(∃v:Int,r= .tup [D.int v,.bool (jJ nP l c)])/\σ'=σ):=
  (aOj l c σ hl).trim fun r σ' ⟨⟨v,hr⟩,J,hs'⟩=>⟨σ,J,hs',rfl,by rw [hr];exact Sc.tup fun d hd=>by simp at hd;rcases hd with rfl | rfl <;> exact Sc.v _,fun n cs h=> .inl h,⟨v,by rw [hr,rT nP hs,Iz nP hs]⟩,rfl⟩
theorem aM6(l:List PI)(c:ByteArray)(v:Int)(σ:List (List D))(hl:l.length<=99999):Ct prog 183 [.sl false (l.map cM),D.str c,D.int v] σ (fun r σ'=>r= .xs 2 ((gS nP (fY nP l) ⟨c,v⟩).map cM)/\σ'=σ):=by
  refine zf func183 ?_;have hol:=gZ nP l;refine zr ⟨[6,9,10,12],[],[],[],[]⟩ fun _ _ Z=>?_;simp;apply Z;refine zr ⟨[6,9,10,12],[],[],[],[]⟩ fun _ _ Z=>?_;refine zs 1 fun _ Y=>?_;simp;apply Y;refine aE fun _ Y=>?_;simp;refine cB (Mm l _ (by omega)) ?_;apply Y;refine zs 3 fun _ Y=>?_;simp;apply Y;refine aE fun _ Y=>?_;simp;refine cB (aCg (fY nP l) ⟨c,v⟩ _ (by omega) (jD nP l)) ?_;apply Y;simp;apply Z;apply aD;simp [aK]
theorem aPa(l:List PI)(p:PI->Bool)(f:FuncId)(caps:List D)(σ:List (List D))(hl:l.length<=99999)(hcp:∀d∈caps,d.plain=true)(hcs:caps.map D.strip=caps)(hp:∀x τ,Ct prog f (cM x::caps) τ (fun r τ'=>r= .bool (p x)/\τ'=τ)):Ct prog 261 [.sl false (l.map cM),.clo (.func f) [] caps] σ (fun r σ'=>r= .xs 2 (((fY nP l).filter fun x=> !p x).map cM)/\σ'=σ):=by
  refine zf func261 ?_;have hol:=gZ nP l;refine zr ⟨[4,7,8],[],[],[],[]⟩ fun _ _ Z=>?_;simp;apply Z;refine zr ⟨[4,7,8],[],[],[],[]⟩ fun _ _ Z=>?_;refine zs 1 fun _ Y=>?_;simp;apply Y;refine aE fun _ Y=>?_;simp;refine cB (Mm l _ (by omega)) ?_;apply Y;refine zs 1 fun _ Y=>?_;simp;apply Y;refine aE fun _ Y=>?_;simp;refine cB (Zt (fY nP l) p f caps _ (by omega) hcp hcs hp) ?_;apply Y;simp;apply Z;apply aD;simp [aK]
theorem aHr(x:PI)(c:ByteArray)(σ:List (List D))  :Ct prog 262 [cM x,.adr [D.str c]] σ (fun r σ'=>r= .bool (decide (x.name=c))/\σ'=σ):=by
  refine zf func262 ?_;refine bE fun _ _ Z=>?_;simp;apply Z;refine bE fun _ _ Z=>?_;simp;apply Z;apply aD;simp[aK]
theorem aF3(l:List PI)(c:ByteArray)(σ:List (List D))(hl:l.length<=99999):Ct prog 240 [.sl false (l.map cM),D.str c] σ (fun r σ'=>r= .xs 2 ((lN nP (fY nP l) c).map cM)/\σ'=σ):=by
  refine zf func240 ?_;refine zr ⟨[4],[3],[],[],[]⟩ fun _ _ Z=>?_;simp;apply Z;refine zr ⟨[4],[3],[],[],[]⟩ fun _ _ Z=>?_;refine zs 2 fun _ Y=>?_;simp;and_intros<;>(try omega);apply Y;refine aE fun _ Y=>?_;simp;refine cB (aPa l (fun x=>decide (x.name=c)) 262 [.adr [D.str c]] _ hl (by simp) (by simp) (fun x τ=>aHr x c τ)) ?_;apply Y;simp;apply Z;apply aD;simp [aK,lN]
theorem aQ6(l:List PI)(c:ByteArray)(v:Int)(σ:List (List D))(hl:l.length<=99999)(hs:Sorted nP l):Ct prog 183 [.sl false (l.map cM),D.str c,D.int v] σ (fun r σ'=>r= .sl false ((gS nP l ⟨c,v⟩).map cM)/\σ'=σ):=
  (aM6 l c v σ hl).freeze fun r σ' h=>by rw [rT nP hs] at h;exact h
theorem aJq(l:List PI)(c:ByteArray)(σ:List (List D))(hl:l.length<=99999)(hs:Sorted nP l):Ct prog 240 [.sl false (l.map cM),D.str c] σ (fun r σ'=>r= .sl false ((lN nP l c).map cM)/\σ'=σ):=
  (aF3 l c σ hl).freeze fun r σ' h=>by rw [rT nP hs] at h;exact h
end Go.Proofs.YtbgfljpnhhdkoaaGreat
