import Derived.Test.YtbgfljpnhhdkoaaGreatWkAr4
namespace Go.Proofs.YtbgfljpnhhdkoaaGreat
open Go Go.Vm
set_option linter.all false
def cQ(a b:ByteArray):Bool:=Op.bytesLess a.toList b.toList
theorem Cs:∀a:List UInt8,Op.bytesLess a a=false
  | []=>rfl
  | a::x=>by simp [Op.bytesLess,Cs x]
theorem aKk {a b:UInt8} :a<b↔a.toNat<b.toNat:=Iff.rfl
theorem Kb:∀a b c:List UInt8,Op.bytesLess a b=true→Op.bytesLess b c=true→Op.bytesLess a c=true
  | [], [],_,h,_=>by simp [Op.bytesLess] at h
  | _::_, [],_,h,_=>by simp [Op.bytesLess] at h
  | [],_::_, [],_,h=>by simp [Op.bytesLess] at h
  | _::_,_::_, [],_,h=>by simp [Op.bytesLess] at h
  | [],_::_,_::_,_,_=>by simp [Op.bytesLess]
  | a :: x, b :: y, c :: z, h1, h2 => by
    simp only [Op.bytesLess,Bool.or_eq_true,Bool.and_eq_true,decide_eq_true_eq,beq_iff_eq,aKk] at *;rcases h1 with h1 | ⟨rfl,h1⟩
    · rcases h2 with h2 | ⟨rfl, h2⟩
      · left;omega
      left;exact h1
    rcases h2 with h2 | ⟨rfl,h2⟩
    · left;exact h2
    right;exact⟨rfl,Kb x y z h1 h2⟩
theorem jX(a:ByteArray):cQ a a=false:=Cs _
theorem mU {a b c:ByteArray} (h1:cQ a b=true)(h2:cQ b c=true):cQ a c=true:=Kb _ _ _ h1 h2
theorem Kn(a b:ByteArray):cQ a b=true∨a=b∨cQ b a=true:=by
  have h:=rS a.toList b.toList;unfold cQ;cases h1:Op.bytesLess a.toList b.toList with
  | true=>left;rfl
  | false =>
    rw [h1,Bool.false_or,kT] at h;cases h2:Op.bytesLess b.toList a.toList with
    | true=>right;right;rfl
    | false=>rw [h2] at h;right;left;simpa using h
theorem Lz {a b:ByteArray} (h:cQ a b=true):cQ b a=false:=by
  cases h2:cQ b a with
  | false=>rfl
  | true=>have:=mU h h2;rw [jX] at this;cases this
theorem yK {a b:ByteArray} (h:cQ a b=true):a≠b:=by rintro rfl;rw [jX] at h;cases h
theorem Jm {a b:ByteArray} (h:cQ a b=false)(hn:a≠b):cQ b a=true:=by
  rcases Kn a b with h1 | h1 | h1
  · rw [h1] at h;cases h
  · exact absurd h1 hn
  exact h1
def Ad(a b:ByteArray):Int:=if cQ a b=true then -1 else if cQ b a=true then 1 else 0
theorem zX(a b:ByteArray):Ad a b<0↔cQ a b=true:=by
  unfold Ad;repeat' split
  all_goals simp_all
theorem Qo(a b:ByteArray):0≤Ad a b↔cQ a b=false:=by
  have:=zX a b;rw [← Bool.not_eq_true,← this];omega
theorem Du(a b:ByteArray):Ad a b=0↔a=b:=by
  unfold Ad
  repeat' split
  · rename_i h;simp;exact yK h
  · rename_i h;simp;exact fun e=>yK h e.symm
  rename_i h1 h2;simp only [true_iff];rcases Kn a b with h | h | h
  · exact absurd h h1
  · exact h
  exact absurd h h2
section
variable {α:Type} (nm:α→ByteArray)
def gV:List α→ByteArray→Nat
  | [],_=>0
  | q::l,c=>if cQ (nm q) c=true then gV l c+1 else 0
def Hr:List α→ByteArray→Bool
  | [],_=>false
  | q::l,c=>if cQ (nm q) c=true then Hr l c else decide (nm q=c)
def fC:List α→α→List α
  | [],p=> [p]
  | q::l,p=>if cQ (nm q) (nm p)=true then q::fC l p else if nm q=nm p then p::l else p::q::l
def cG(l:List α):Prop:=l.Pairwise fun a b=>cQ (nm a) (nm b)=true
def jL(l:List α):List α:=l.foldl (fC nm) []
def mY(l:List α)(c:ByteArray):Bool:=l.any fun p=>decide (nm p=c)
def jF(l:List α)(c:ByteArray):List α:=l.filter fun p=> !decide (nm p=c)
theorem Fu(l:List α)(c:ByteArray):gV nm l c≤l.length:=by
  induction l with
  | nil=>exact Nat.le_refl _
  | cons q l ih=>unfold gV;split <;> simp <;> omega
theorem Fc:∀(l:List α) (c:ByteArray) (i:Nat),i≤l.length→(∀j (h:j<l.length),j<i→cQ (nm l[j]) c=true)→(∀h:i<l.length,cQ (nm l[i]) c=false)→gV nm l c=i
  | [],c,i,hi,_,_=>by simp at hi;subst hi;rfl
  | q :: l, c, 0, _, _, h2 => by
    have:=h2 (by simp);simp only [List.getElem_cons_zero] at this;simp [gV,this]
  | q :: l, c, i + 1, hi, h1, h2 => by
    have h0:=h1 0 (by simp) (by omega);simp only [List.getElem_cons_zero] at h0;have:=Fc l c i (by simpa using hi) (fun j h hj=>h1 (j+1) (by simpa using h) (by omega)) (fun h=>h2 (by simpa using h));simp [gV,h0,this]
theorem Ov:∀(l:List α) (c:ByteArray) (h:gV nm l c<l.length),Hr nm l c=decide (nm l[gV nm l c]=c)
  | [],c,h=>by simp at h
  | q :: l, c, h => by
    by_cases e:cQ (nm q) c=true
    · have hp : gV nm (q :: l) c = gV nm l c + 1 := by simp [gV, e]
      have h':gV nm l c<l.length:=by rw [hp] at h;simpa using h
      have:=Ov l c h';simp only [Hr,e,if_true,this,hp,List.getElem_cons_succ]
    have hp:gV nm (q::l) c=0:=by simp [gV,e]
    simp only [Hr,e,if_false,hp,List.getElem_cons_zero];rfl
theorem yO:∀(l:List α) (c:ByteArray),gV nm l c=l.length→Hr nm l c=false
  | [],c,_=>rfl
  | q :: l, c, h => by
    by_cases e:cQ (nm q) c=true
    · have hp : gV nm (q :: l) c = gV nm l c + 1 := by simp [gV, e]
      simp only [Hr,e,if_true];exact yO l c (by rw [hp] at h;simpa using h)
    have hp:gV nm (q::l) c=0:=by simp [gV,e]
    rw [hp] at h;simp at h
theorem Hc {l:List α} {c:ByteArray} (h:Hr nm l c=true):gV nm l c<l.length:=by
  have:=Fu nm l c;rcases Nat.lt_or_ge (gV nm l c) l.length with h1 | h1
  · exact h1
  have:=yO nm l c (by omega);rw [h] at this;cases this
theorem tP:∀(l:List α) (p:α),fC nm l p=if Hr nm l (nm p)=true then l.set (gV nm l (nm p)) p else dE l (gV nm l (nm p)) p
  | [],p=>rfl
  | q :: l, p => by
    by_cases e:cQ (nm q) (nm p)=true
    · have ih := tP l p
      simp only [fC,Hr,gV,e,if_true,ih];split <;> simp [dE]
    simp only [fC,Hr,gV,e,if_false];by_cases e2:nm q=nm p <;> simp [e2,dE]
theorem zG(l:List α)(p:α):(fC nm l p).length≤l.length+1:=by
  induction l with
  | nil=>simp [fC]
  | cons q l ih => unfold fC; repeat' split
                   all_goals simp
                   all_goals omega
theorem aCk {l:List α} {p x:α} (h:x∈fC nm l p):x=p∨x∈l:=by
  induction l with
  | nil=>simp [fC] at h;exact .inl h
  | cons q l ih =>
    unfold fC at h;split at h
    · rcases List.mem_cons.1 h with h | h
      · exact .inr (by simp [h])
      rcases ih h with h | h
      · exact .inl h
      exact .inr (by simp [h])
    split at h
    · rcases List.mem_cons.1 h with h | h
      · exact .inl h
      exact .inr (by simp [h])
    rcases List.mem_cons.1 h with h | h
    · exact .inl h
    exact .inr h
theorem qA {l:List α} (h:cG nm l)(p:α):cG nm (fC nm l p):=by
  induction l with
  | nil=>simp [fC,cG]
  | cons q l ih =>
    have h':=List.pairwise_cons.1 h;unfold fC;split
    · rename_i e
      refine List.pairwise_cons.2 ⟨fun x hx=>?_,ih h'.2⟩;rcases aCk nm hx with rfl | hx
      · exact e
      exact h'.1 x hx
    rename_i e;split
    · rename_i e2
      exact List.pairwise_cons.2 ⟨fun x hx=>by rw [← e2];exact h'.1 x hx,h'.2⟩
    rename_i e2;have e3:=Jm (by simpa using e) e2;refine List.pairwise_cons.2 ⟨fun x hx=>?_,h⟩;rcases List.mem_cons.1 hx with rfl | hx
    · exact e3
    exact mU e3 (h'.1 x hx)
theorem qD(l:List α)(p:α):jL nm (l++ [p])=fC nm (jL nm l) p:=by simp [jL,List.foldl_append]
theorem yX(l:List α)(k:Nat)(h:k<l.length):jL nm (l.take (k+1))=fC nm (jL nm (l.take k)) l[k]:=by rw [cX l k h,qD]
theorem jN(l:List α):cG nm (jL nm l):=by
  induction l using tQ with
  | h0=>simp [jL,cG]
  | h1 l x ih=>rw [qD];exact qA nm ih x
theorem lU(l:List α):(jL nm l).length≤l.length:=by
  induction l using tQ with
  | h0=>simp [jL]
  | h1 l x ih=>rw [qD];have:=zG nm (jL nm l) x;simp;omega
theorem Si {l:List α} {p:α} (h:∀x∈l,cQ (nm x) (nm p)=true):fC nm l p=l++ [p]:=by
  induction l with
  | nil=>rfl
  | cons q l ih =>
    have:=h q (by simp);simp only [fC,this,if_true,List.cons_append];rw [ih fun x hx=>h x (by simp [hx])]
theorem qJ {l:List α} (h:cG nm l):jL nm l=l:=by
  induction l using tQ with
  | h0=>rfl
  | h1 l x ih =>
    have h':=List.pairwise_append.1 h;rw [qD,ih h'.1,Si nm fun y hy=>h'.2.2 y hy x (by simp)]
theorem Qb {l:List α} (h:cG nm l)(c:ByteArray):Hr nm l c=mY nm l c:=by
  induction l with
  | nil=>rfl
  | cons q l ih =>
    have h':=List.pairwise_cons.1 h;unfold Hr mY;simp only [List.any_cons];split
    · rename_i e
      rw [ih h'.2];have:¬nm q=c:=yK e;simp [this,mY]
    rename_i e;have:(l.any fun p=>decide (nm p=c))=false:=by
      rw [List.any_eq_false];intro x hx;simp only [decide_eq_true_eq];rintro rfl;have:=h'.1 x hx;exact e this
    rw [this,Bool.or_false]
theorem xF {l:List α} (h:cG nm l)(c:ByteArray):cG nm (jF nm l c):=List.Pairwise.filter _ h
theorem uY(l:List α)(c:ByteArray):(jF nm l c).length≤l.length:=List.length_filter_le _ _
theorem Cb {l:List α} (c:ByteArray):((jF nm l c).length=l.length)↔mY nm l c=false:=by
  unfold jF mY;rw [List.length_filter_eq_length_iff,List.any_eq_false];simp
theorem qY(l:List α)(c:ByteArray)(k:Nat)(h:k<l.length):jF nm (l.take (k+1)) c=jF nm (l.take k) c++if nm l[k]=c then [] else [l[k]]:=by
  unfold jF;rw [cX l k h,List.filter_append,List.filter_cons];by_cases e:nm l[k]=c <;> simp [e]
theorem aHe {l:List α} {c:ByteArray} {m:Nat} (hs:cG nm l)(hm:m<l.length)(h:cQ (nm l[m]) c=true):∀j (h:j<l.length),j<m+1→cQ (nm l[j]) c=true:=fun j hj hjm=>by
  rcases Nat.lt_or_ge j m with h1 | h1
  · exact mU (List.pairwise_iff_getElem.1 hs j m hj hm h1) h
  obtain rfl:j=m:=by omega
  exact h
theorem aHg {l:List α} {c:ByteArray} {m:Nat} (hs:cG nm l)(hm:m<l.length)(h:cQ (nm l[m]) c=false):∀j (h:j<l.length),m≤j→cQ (nm l[j]) c=false:=fun j hj hjm=>by
  rcases Nat.lt_or_ge m j with h1 | h1
  · have := List.pairwise_iff_getElem.1 hs m j hm hj h1
    cases e:cQ (nm l[j]) c with
    | false=>rfl
    | true=>rw [mU this e] at h;cases h
  obtain rfl:j=m:=by omega
  exact h
def iI(p:α)(s:List α×Bool)(x:α):List α×Bool:=
  let s1:=if s.2=false∧cQ (nm x) (nm p)=false then(s.1++ [p],true)else s
  if nm x=nm p then s1 else(s1.1++ [x],s1.2)
def lM(l:List α)(p:α):List α×Bool:=l.foldl (iI nm p) ([],false)
def Vf(s:List α×Bool)(p:α):List α:=if s.2=true then s.1 else s.1++ [p]
theorem kP(l:List α)(p:α)(k:Nat)(h:k<l.length):lM nm (l.take (k+1)) p=iI nm p (lM nm (l.take k) p) l[k]:=by
  unfold lM;rw [cX l k h,List.foldl_append];rfl
theorem Sv(l:List α)(p:α):(lM nm l p).1.length≤l.length+(if(lM nm l p).2=true then 1 else 0):=by
  induction l using tQ with
  | h0=>simp [lM]
  | h1 l x ih =>
    have e:lM nm (l++ [x]) p=iI nm p (lM nm l p) x:=by unfold lM;rw [List.foldl_append];rfl
    rw [e];generalize lM nm l p=s at ih;obtain⟨o,b⟩:=s;unfold iI;cases b <;> by_cases e1:cQ (nm x) (nm p)=false <;> by_cases e2:nm x=nm p <;> simp_all <;> omega
theorem Ap(p:α):∀(l o:List α),(l.foldl (iI nm p) (o,true))=(o++jF nm l (nm p),true)
  | [],o=>by simp [jF]
  | x :: l, o => by
    rw [List.foldl_cons];have e:iI nm p (o,true) x=(if nm x=nm p then o else o++ [x],true):=by
      unfold iI;simp;split <;> rfl
    rw [e,Ap p l];unfold jF;by_cases e2:nm x=nm p <;> simp [e2]
theorem xX (p : α) : ∀ (l o : List α), cG nm l → Vf (l.foldl (iI nm p) (o, false)) p = o ++ fC nm l p
  | [],o,_=>by simp [Vf,fC]
  | x :: l, o, h => by
    have h':=List.pairwise_cons.1 h;rw [List.foldl_cons];by_cases e1:cQ (nm x) (nm p)=true
    · have e : iI nm p (o, false) x = (o ++ [x], false) := by
        unfold iI;simp [e1,yK e1]
      rw [e,xX p l _ h'.2];simp [fC,e1]
    have e1':cQ (nm x) (nm p)=false:=by simpa using e1
    have hid:∀y∈l,nm y≠nm p:=fun y hy hp=>e1 (by have:=h'.1 y hy;rw [hp] at this;exact this);have hdel:jF nm l (nm p)=l:=by
      unfold jF;rw [List.filter_eq_self];intro y hy;simp [hid y hy]
    have e:iI nm p (o,false) x=(if nm x=nm p then o++ [p] else o++ [p]++ [x],true):=by
      unfold iI;simp [e1'];split <;> rfl
    rw [e,Ap,hdel];by_cases e2:nm x=nm p <;> simp [Vf,fC,e1,e2,jX]
theorem Cx {l:List α} (h:cG nm l)(p:α):Vf (lM nm l p) p=fC nm l p:=by
  have:=xX nm p l [] h;simpa [lM] using this
def lL(out:List α)(c:ByteArray):Bool:=match out.getLast? with | none=>true | some q=>cQ (nm q) c
def Cg(l out:List α):Option α:=((jL nm l).filter fun p=>lL nm out (nm p)).head?
theorem Is {g:ByteArray→Bool} (hup:∀a b,cQ a b=true→g a=true→g b=true):∀(l:List α) (p:α),(fC nm l p).filter (fun q=>g (nm q))=if g (nm p)=true then fC nm (l.filter fun q=>g (nm q)) p else l.filter fun q=>g (nm q)
  | [],p=>by by_cases e:g (nm p)=true <;> simp [fC,e]
  | q :: l, p => by
    have ih:=Is hup l p;by_cases e:cQ (nm q) (nm p)=true
    · simp only [fC, e, if_true, List.filter_cons, ih]
      by_cases e1:g (nm q)=true <;> by_cases e2:g (nm p)=true <;> simp [e1,e2,fC,e]
    by_cases e3:nm q=nm p
    · simp only [fC, e, e3, if_true, if_false, List.filter_cons]
      by_cases e2:g (nm p)=true
      · simp [e2,fC,e3,jX]
      simp [e2,jX]
    simp only [fC,e,e3,if_false,List.filter_cons];have e4:=Jm (by simpa using e) e3;by_cases e2:g (nm p)=true
    · have e1 := hup _ _ e4 e2
      simp [e1,e2,fC,e,e3]
    by_cases e1:g (nm q)=true <;> simp [e1,e2,fC,e,e3]
theorem aCp(out:List α):∀a b,cQ a b=true→lL nm out a=true→lL nm out b=true:=by
  intro a b h1 h2;unfold lL at *;split
  · rfl
  rename_i q hq;rw [hq] at h2;exact mU h2 h1
theorem Us(l out:List α)(k:Nat)(h:k<l.length):Cg nm (l.take (k+1)) out=if lL nm out (nm l[k])=true then(match Cg nm (l.take k) out with | none=>some l[k] | some q=>if cQ (nm q) (nm l[k])=true then some q else some l[k])else Cg nm (l.take k) out:=by
  unfold Cg;rw [yX nm l k h,Is nm (aCp nm out)];split
  · cases (jL nm (l.take k)).filter fun p => lL nm out (nm p) with
    | nil=>rfl
    | cons q r =>
      simp only [fC,List.head?_cons]
      repeat' split
      all_goals rfl
  rfl
theorem aIs(l out:List α):Cg nm (l.take 0) out=none:=by simp [Cg,jL]
theorem aDk (l : List α) (k : Nat) (hk : k ≤ (jL nm l).length) : Cg nm l ((jL nm l).take k) = (jL nm l)[k]? := by
  have hs := jN nm l;unfold Cg;generalize jL nm l = S at *;have hd : (S.filter fun p => lL nm (S.take k) (nm p)) = S.drop k := by
    cases k with
    | zero=>simp [lL]
    | succ k =>
      have hl:(S.take (k+1)).getLast?=some S[k]:=by rw [cX S k (by omega),List.getLast?_concat]
      have hg:∀p,lL nm (S.take (k+1)) (nm p)=cQ (nm S[k]) (nm p):=fun p=>by unfold lL;rw [hl]
      simp only [hg];have hsplit:∀q:α→Bool,S.filter q=(S.take (k+1)).filter q++(S.drop (k+1)).filter q:=fun q=>by rw [← List.filter_append,List.take_append_drop]
      rw [hsplit];have hp:(S.take (k+1)++S.drop (k+1)).Pairwise fun a b=>cQ (nm a) (nm b)=true:=by rw [List.take_append_drop];exact hs
      have h3:=List.pairwise_append.1 hp;have hmem:S[k]∈S.take (k+1):=by rw [cX S k (by omega)];exact List.mem_append_right _ (List.mem_singleton.2 rfl)
      have f2:(S.drop (k+1)).filter (fun p=>cQ (nm S[k]) (nm p))=S.drop (k+1):=by
        rw [List.filter_eq_self];exact fun x hx=>h3.2.2 _ hmem x hx
      have f1:(S.take (k+1)).filter (fun p=>cQ (nm S[k]) (nm p))= []:=by
        rw [List.filter_eq_nil_iff];intro x hx;rw [cX S k (by omega)] at hx h3;rcases List.mem_append.1 hx with hx | hx
        · have := (List.pairwise_append.1 h3.1).2.2 x hx S[k] (by simp)
          rw [Lz this];simp
        simp at hx;subst hx;rw [jX];simp
      rw [f1,f2,List.nil_append]
  rw [hd,List.head?_drop]
end
end Go.Proofs.YtbgfljpnhhdkoaaGreat
