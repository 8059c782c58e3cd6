import Derived.Test.YtbgfljpnhhdkoaaGreatWkAr4
namespace Go.Proofs.YtbgfljpnhhdkoaaGreat
open Go Go.Vm
set_option linter.all false
def cS(a b:ByteArray):Bool:=Op.bytesLess a.toList b.toList
theorem Dq:∀a:List UInt8,Op.bytesLess a a=false
  | []=>rfl
  | a::x=>by simp [Op.bytesLess,Dq x]
theorem aKd {a b:UInt8} :a<b↔a.toNat<b.toNat:=Iff.rfl
theorem Hz:∀a b c:List UInt8,Op.bytesLess a b=true→Op.bytesLess b c=true→Op.bytesLess a c=true
  | [], [],_,h,_=>by simp [Op.bytesLess] at h
  | _::_, [],_,h,_=>by simp [Op.bytesLess] at h
  | [],_::_, [],_,h=>by simp [Op.bytesLess] at h
  | _::_,_::_, [],_,h=>by simp [Op.bytesLess] at h
  | [],_::_,_::_,_,_=>by simp [Op.bytesLess]
  | a :: x, b :: y, c :: z, h1, h2 => by
    simp only [Op.bytesLess,Bool.or_eq_true,Bool.and_eq_true,decide_eq_true_eq,beq_iff_eq,aKd] at *;rcases h1 with h1 | ⟨rfl,h1⟩
    · rcases h2 with h2 | ⟨rfl, h2⟩
      · left;omega
      left;exact h1
    rcases h2 with h2 | ⟨rfl,h2⟩
    · left;exact h2
    right;exact⟨rfl,Hz x y z h1 h2⟩
theorem jW(a:ByteArray):cS a a=false:=Dq _
theorem mH {a b c:ByteArray} (h1:cS a b=true)(h2:cS b c=true):cS a c=true:=Hz _ _ _ h1 h2
theorem Il(a b:ByteArray):cS a b=true∨a=b∨cS b a=true:=by
  have h:=qX a.toList b.toList;unfold cS;cases h1:Op.bytesLess a.toList b.toList with
  | true=>left;rfl
  | false =>
    rw [h1,Bool.false_or,kS] at h;cases h2:Op.bytesLess b.toList a.toList with
    | true=>right;right;rfl
    | false=>rw [h2] at h;right;left;simpa using h
theorem Oy {a b:ByteArray} (h:cS a b=true):cS b a=false:=by
  cases h2:cS b a with
  | false=>rfl
  | true=>have:=mH h h2;rw [jW] at this;cases this
theorem yO {a b:ByteArray} (h:cS a b=true):a≠b:=by rintro rfl;rw [jW] at h;cases h
theorem Hs {a b:ByteArray} (h:cS a b=false)(hn:a≠b):cS b a=true:=by
  rcases Il a b with h1 | h1 | h1
  · rw [h1] at h;cases h
  · exact absurd h1 hn
  exact h1
def Am(a b:ByteArray):Int:=if cS a b=true then -1 else if cS b a=true then 1 else 0
theorem Bl(a b:ByteArray):Am a b<0↔cS a b=true:=by
  unfold Am;repeat' split
  all_goals simp_all
theorem Pg(a b:ByteArray):0≤Am a b↔cS a b=false:=by
  have:=Bl a b;rw [← Bool.not_eq_true,← this];omega
theorem Ch(a b:ByteArray):Am a b=0↔a=b:=by
  unfold Am
  repeat' split
  · rename_i h;simp;exact yO h
  · rename_i h;simp;exact fun e=>yO h e.symm
  rename_i h1 h2;simp only [true_iff];rcases Il a b with h | h | h
  · exact absurd h h1
  · exact h
  exact absurd h h2
section
variable {α:Type} (nm:α→ByteArray)
def gT:List α→ByteArray→Nat
  | [],_=>0
  | q::l,c=>if cS (nm q) c=true then gT l c+1 else 0
def He:List α→ByteArray→Bool
  | [],_=>false
  | q::l,c=>if cS (nm q) c=true then He l c else decide (nm q=c)
def fB:List α→α→List α
  | [],p=> [p]
  | q::l,p=>if cS (nm q) (nm p)=true then q::fB l p else if nm q=nm p then p::l else p::q::l
def cJ(l:List α):Prop:=l.Pairwise fun a b=>cS (nm a) (nm b)=true
def jK(l:List α):List α:=l.foldl (fB nm) []
def mW(l:List α)(c:ByteArray):Bool:=l.any fun p=>decide (nm p=c)
def iY(l:List α)(c:ByteArray):List α:=l.filter fun p=> !decide (nm p=c)
theorem Gx(l:List α)(c:ByteArray):gT nm l c≤l.length:=by
  induction l with
  | nil=>exact Nat.le_refl _
  | cons q l ih=>unfold gT;split <;> simp <;> omega
theorem Ep:∀(l:List α) (c:ByteArray) (i:Nat),i≤l.length→(∀j (h:j<l.length),j<i→cS (nm l[j]) c=true)→(∀h:i<l.length,cS (nm l[i]) c=false)→gT nm l c=i
  | [],c,i,hi,_,_=>by simp at hi;subst hi;rfl
  | q :: l, c, 0, _, _, h2 => by
    have:=h2 (by simp);simp only [List.getElem_cons_zero] at this;simp [gT,this]
  | q :: l, c, i + 1, hi, h1, h2 => by
    have h0:=h1 0 (by simp) (by omega);simp only [List.getElem_cons_zero] at h0;have:=Ep l c i (by simpa using hi) (fun j h hj=>h1 (j+1) (by simpa using h) (by omega)) (fun h=>h2 (by simpa using h));simp [gT,h0,this]
theorem Mb:∀(l:List α) (c:ByteArray) (h:gT nm l c<l.length),He nm l c=decide (nm l[gT nm l c]=c)
  | [],c,h=>by simp at h
  | q :: l, c, h => by
    by_cases e:cS (nm q) c=true
    · have hp : gT nm (q :: l) c = gT nm l c + 1 := by simp [gT, e]
      have h':gT nm l c<l.length:=by rw [hp] at h;simpa using h
      have:=Mb l c h';simp only [He,e,if_true,this,hp,List.getElem_cons_succ]
    have hp:gT nm (q::l) c=0:=by simp [gT,e]
    simp only [He,e,if_false,hp,List.getElem_cons_zero];rfl
theorem yD:∀(l:List α) (c:ByteArray),gT nm l c=l.length→He nm l c=false
  | [],c,_=>rfl
  | q :: l, c, h => by
    by_cases e:cS (nm q) c=true
    · have hp : gT nm (q :: l) c = gT nm l c + 1 := by simp [gT, e]
      simp only [He,e,if_true];exact yD l c (by rw [hp] at h;simpa using h)
    have hp:gT nm (q::l) c=0:=by simp [gT,e]
    rw [hp] at h;simp at h
theorem Ek {l:List α} {c:ByteArray} (h:He nm l c=true):gT nm l c<l.length:=by
  have:=Gx nm l c;rcases Nat.lt_or_ge (gT nm l c) l.length with h1 | h1
  · exact h1
  have:=yD nm l c (by omega);rw [h] at this;cases this
theorem uJ:∀(l:List α) (p:α),fB nm l p=if He nm l (nm p)=true then l.set (gT nm l (nm p)) p else dG l (gT nm l (nm p)) p
  | [],p=>rfl
  | q :: l, p => by
    by_cases e:cS (nm q) (nm p)=true
    · have ih := uJ l p
      simp only [fB,He,gT,e,if_true,ih];split <;> simp [dG]
    simp only [fB,He,gT,e,if_false];by_cases e2:nm q=nm p <;> simp [e2,dG]
theorem zZ(l:List α)(p:α):(fB nm l p).length≤l.length+1:=by
  induction l with
  | nil=>simp [fB]
  | cons q l ih => unfold fB; repeat' split
                   all_goals simp
                   all_goals omega
theorem Xz {l:List α} {p x:α} (h:x∈fB nm l p):x=p∨x∈l:=by
  induction l with
  | nil=>simp [fB] at h;exact .inl h
  | cons q l ih =>
    unfold fB at h;split at h
    · rcases List.mem_cons.1 h with h | h
      · exact .inr (by simp [h])
      rcases ih h with h | h
      · exact .inl h
      exact .inr (by simp [h])
    split at h
    · rcases List.mem_cons.1 h with h | h
      · exact .inl h
      exact .inr (by simp [h])
    rcases List.mem_cons.1 h with h | h
    · exact .inl h
    exact .inr h
theorem qI {l:List α} (h:cJ nm l)(p:α):cJ nm (fB nm l p):=by
  induction l with
  | nil=>simp [fB,cJ]
  | cons q l ih =>
    have h':=List.pairwise_cons.1 h;unfold fB;split
    · rename_i e
      refine List.pairwise_cons.2 ⟨fun x hx=>?_,ih h'.2⟩;rcases Xz nm hx with rfl | hx
      · exact e
      exact h'.1 x hx
    rename_i e;split
    · rename_i e2
      exact List.pairwise_cons.2 ⟨fun x hx=>by rw [← e2];exact h'.1 x hx,h'.2⟩
    rename_i e2;have e3:=Hs (by simpa using e) e2;refine List.pairwise_cons.2 ⟨fun x hx=>?_,h⟩;rcases List.mem_cons.1 hx with rfl | hx
    · exact e3
    exact mH e3 (h'.1 x hx)
theorem qR(l:List α)(p:α):jK nm (l++ [p])=fB nm (jK nm l) p:=by simp [jK,List.foldl_append]
theorem zN(l:List α)(k:Nat)(h:k<l.length):jK nm (l.take (k+1))=fB nm (jK nm (l.take k)) l[k]:=by rw [dL l k h,qR]
theorem jO(l:List α):cJ nm (jK nm l):=by
  induction l using tU with
  | h0=>simp [jK,cJ]
  | h1 l x ih=>rw [qR];exact qI nm ih x
theorem lU(l:List α):(jK nm l).length≤l.length:=by
  induction l using tU with
  | h0=>simp [jK]
  | h1 l x ih=>rw [qR];have:=zZ nm (jK nm l) x;simp;omega
theorem Sw {l:List α} {p:α} (h:∀x∈l,cS (nm x) (nm p)=true):fB nm l p=l++ [p]:=by
  induction l with
  | nil=>rfl
  | cons q l ih =>
    have:=h q (by simp);simp only [fB,this,if_true,List.cons_append];rw [ih fun x hx=>h x (by simp [hx])]
theorem pW {l:List α} (h:cJ nm l):jK nm l=l:=by
  induction l using tU with
  | h0=>rfl
  | h1 l x ih =>
    have h':=List.pairwise_append.1 h;rw [qR,ih h'.1,Sw nm fun y hy=>h'.2.2 y hy x (by simp)]
theorem Qy {l:List α} (h:cJ nm l)(c:ByteArray):He nm l c=mW nm l c:=by
  induction l with
  | nil=>rfl
  | cons q l ih =>
    have h':=List.pairwise_cons.1 h;unfold He mW;simp only [List.any_cons];split
    · rename_i e
      rw [ih h'.2];have:¬nm q=c:=yO e;simp [this,mW]
    rename_i e;have:(l.any fun p=>decide (nm p=c))=false:=by
      rw [List.any_eq_false];intro x hx;simp only [decide_eq_true_eq];rintro rfl;have:=h'.1 x hx;exact e this
    rw [this,Bool.or_false]
theorem xC {l:List α} (h:cJ nm l)(c:ByteArray):cJ nm (iY nm l c):=List.Pairwise.filter _ h
theorem tF(l:List α)(c:ByteArray):(iY nm l c).length≤l.length:=List.length_filter_le _ _
theorem An {l:List α} (c:ByteArray):((iY nm l c).length=l.length)↔mW nm l c=false:=by
  unfold iY mW;rw [List.length_filter_eq_length_iff,List.any_eq_false];simp
theorem rK(l:List α)(c:ByteArray)(k:Nat)(h:k<l.length):iY nm (l.take (k+1)) c=iY nm (l.take k) c++if nm l[k]=c then [] else [l[k]]:=by
  unfold iY;rw [dL l k h,List.filter_append,List.filter_cons];by_cases e:nm l[k]=c <;> simp [e]
theorem aGw {l:List α} {c:ByteArray} {m:Nat} (hs:cJ nm l)(hm:m<l.length)(h:cS (nm l[m]) c=true):∀j (h:j<l.length),j<m+1→cS (nm l[j]) c=true:=fun j hj hjm=>by
  rcases Nat.lt_or_ge j m with h1 | h1
  · exact mH (List.pairwise_iff_getElem.1 hs j m hj hm h1) h
  obtain rfl:j=m:=by omega
  exact h
theorem aGz {l:List α} {c:ByteArray} {m:Nat} (hs:cJ nm l)(hm:m<l.length)(h:cS (nm l[m]) c=false):∀j (h:j<l.length),m≤j→cS (nm l[j]) c=false:=fun j hj hjm=>by
  rcases Nat.lt_or_ge m j with h1 | h1
  · have := List.pairwise_iff_getElem.1 hs m j hm hj h1
    cases e:cS (nm l[j]) c with
    | false=>rfl
    | true=>rw [mH this e] at h;cases h
  obtain rfl:j=m:=by omega
  exact h
def iH(p:α)(s:List α×Bool)(x:α):List α×Bool:=
  let s1:=if s.2=false∧cS (nm x) (nm p)=false then(s.1++ [p],true)else s
  if nm x=nm p then s1 else(s1.1++ [x],s1.2)
def lO(l:List α)(p:α):List α×Bool:=l.foldl (iH nm p) ([],false)
def Sm(s:List α×Bool)(p:α):List α:=if s.2=true then s.1 else s.1++ [p]
theorem kK(l:List α)(p:α)(k:Nat)(h:k<l.length):lO nm (l.take (k+1)) p=iH nm p (lO nm (l.take k) p) l[k]:=by
  unfold lO;rw [dL l k h,List.foldl_append];rfl
theorem Tv(l:List α)(p:α):(lO nm l p).1.length≤l.length+(if(lO nm l p).2=true then 1 else 0):=by
  induction l using tU with
  | h0=>simp [lO]
  | h1 l x ih =>
    have e:lO nm (l++ [x]) p=iH nm p (lO nm l p) x:=by unfold lO;rw [List.foldl_append];rfl
    rw [e];generalize lO nm l p=s at ih;obtain⟨o,b⟩:=s;unfold iH;cases b <;> by_cases e1:cS (nm x) (nm p)=false <;> by_cases e2:nm x=nm p <;> simp_all <;> omega
theorem yW(p:α):∀(l o:List α),(l.foldl (iH nm p) (o,true))=(o++iY nm l (nm p),true)
  | [],o=>by simp [iY]
  | x :: l, o => by
    rw [List.foldl_cons];have e:iH nm p (o,true) x=(if nm x=nm p then o else o++ [x],true):=by
      unfold iH;simp;split <;> rfl
    rw [e,yW p l];unfold iY;by_cases e2:nm x=nm p <;> simp [e2]
theorem xP (p : α) : ∀ (l o : List α), cJ nm l → Sm (l.foldl (iH nm p) (o, false)) p = o ++ fB nm l p
  | [],o,_=>by simp [Sm,fB]
  | x :: l, o, h => by
    have h':=List.pairwise_cons.1 h;rw [List.foldl_cons];by_cases e1:cS (nm x) (nm p)=true
    · have e : iH nm p (o, false) x = (o ++ [x], false) := by
        unfold iH;simp [e1,yO e1]
      rw [e,xP p l _ h'.2];simp [fB,e1]
    have e1':cS (nm x) (nm p)=false:=by simpa using e1
    have hid:∀y∈l,nm y≠nm p:=fun y hy hp=>e1 (by have:=h'.1 y hy;rw [hp] at this;exact this);have hdel:iY nm l (nm p)=l:=by
      unfold iY;rw [List.filter_eq_self];intro y hy;simp [hid y hy]
    have e:iH nm p (o,false) x=(if nm x=nm p then o++ [p] else o++ [p]++ [x],true):=by
      unfold iH;simp [e1'];split <;> rfl
    rw [e,yW,hdel];by_cases e2:nm x=nm p <;> simp [Sm,fB,e1,e2,jW]
theorem Eg {l:List α} (h:cJ nm l)(p:α):Sm (lO nm l p) p=fB nm l p:=by
  have:=xP nm p l [] h;simpa [lO] using this
def lI(out:List α)(c:ByteArray):Bool:=match out.getLast? with | none=>true | some q=>cS (nm q) c
def Cd(l out:List α):Option α:=((jK nm l).filter fun p=>lI nm out (nm p)).head?
theorem Jy {g:ByteArray→Bool} (hup:∀a b,cS a b=true→g a=true→g b=true):∀(l:List α) (p:α),(fB nm l p).filter (fun q=>g (nm q))=if g (nm p)=true then fB nm (l.filter fun q=>g (nm q)) p else l.filter fun q=>g (nm q)
  | [],p=>by by_cases e:g (nm p)=true <;> simp [fB,e]
  | q :: l, p => by
    have ih:=Jy hup l p;by_cases e:cS (nm q) (nm p)=true
    · simp only [fB, e, if_true, List.filter_cons, ih]
      by_cases e1:g (nm q)=true <;> by_cases e2:g (nm p)=true <;> simp [e1,e2,fB,e]
    by_cases e3:nm q=nm p
    · simp only [fB, e, e3, if_true, if_false, List.filter_cons]
      by_cases e2:g (nm p)=true
      · simp [e2,fB,e3,jW]
      simp [e2,jW]
    simp only [fB,e,e3,if_false,List.filter_cons];have e4:=Hs (by simpa using e) e3;by_cases e2:g (nm p)=true
    · have e1 := hup _ _ e4 e2
      simp [e1,e2,fB,e,e3]
    by_cases e1:g (nm q)=true <;> simp [e1,e2,fB,e,e3]
theorem aCb(out:List α):∀a b,cS a b=true→lI nm out a=true→lI nm out b=true:=by
  intro a b h1 h2;unfold lI at *;split
  · rfl
  rename_i q hq;rw [hq] at h2;exact mH h2 h1
theorem Ur(l out:List α)(k:Nat)(h:k<l.length):Cd nm (l.take (k+1)) out=if lI nm out (nm l[k])=true then(match Cd nm (l.take k) out with | none=>some l[k] | some q=>if cS (nm q) (nm l[k])=true then some q else some l[k])else Cd nm (l.take k) out:=by
  unfold Cd;rw [zN nm l k h,Jy nm (aCb nm out)];split
  · cases (jK nm (l.take k)).filter fun p => lI nm out (nm p) with
    | nil=>rfl
    | cons q r =>
      simp only [fB,List.head?_cons]
      repeat' split
      all_goals rfl
  rfl
theorem aHt(l out:List α):Cd nm (l.take 0) out=none:=by simp [Cd,jK]
theorem Zq (l : List α) (k : Nat) (hk : k ≤ (jK nm l).length) : Cd nm l ((jK nm l).take k) = (jK nm l)[k]? := by
  have hs := jO nm l;unfold Cd;generalize jK nm l = S at *;have hd : (S.filter fun p => lI nm (S.take k) (nm p)) = S.drop k := by
    cases k with
    | zero=>simp [lI]
    | succ k =>
      have hl:(S.take (k+1)).getLast?=some S[k]:=by rw [dL S k (by omega),List.getLast?_concat]
      have hg:∀p,lI nm (S.take (k+1)) (nm p)=cS (nm S[k]) (nm p):=fun p=>by unfold lI;rw [hl]
      simp only [hg];have hsplit:∀q:α→Bool,S.filter q=(S.take (k+1)).filter q++(S.drop (k+1)).filter q:=fun q=>by rw [← List.filter_append,List.take_append_drop]
      rw [hsplit];have hp:(S.take (k+1)++S.drop (k+1)).Pairwise fun a b=>cS (nm a) (nm b)=true:=by rw [List.take_append_drop];exact hs
      have h3:=List.pairwise_append.1 hp;have hmem:S[k]∈S.take (k+1):=by rw [dL S k (by omega)];exact List.mem_append_right _ (List.mem_singleton.2 rfl)
      have f2:(S.drop (k+1)).filter (fun p=>cS (nm S[k]) (nm p))=S.drop (k+1):=by
        rw [List.filter_eq_self];exact fun x hx=>h3.2.2 _ hmem x hx
      have f1:(S.take (k+1)).filter (fun p=>cS (nm S[k]) (nm p))= []:=by
        rw [List.filter_eq_nil_iff];intro x hx;rw [dL S k (by omega)] at hx h3;rcases List.mem_append.1 hx with hx | hx
        · have := (List.pairwise_append.1 h3.1).2.2 x hx S[k] (by simp)
          rw [Oy this];simp
        simp at hx;subst hx;rw [jW];simp
      rw [f1,f2,List.nil_append]
  rw [hd,List.head?_drop]
end
end Go.Proofs.YtbgfljpnhhdkoaaGreat
