import Derived.Test.YtbgfljpnhhdkoaaGreatWkAr4
namespace Go.Proofs.YtbgfljpnhhdkoaaGreat
open Go Go.Vm
set_option linter.all false
def cS(a b:ByteArray):Bool:=Op.bytesLess a.toList b.toList
theorem Dr:∀a:List UInt8,Op.bytesLess a a=false
  | []=>rfl
  | a::x=>by simp [Op.bytesLess,Dr x]
theorem aJp {a b:UInt8} :a<b↔a.toNat<b.toNat:=Iff.rfl
theorem Jf:∀a b c:List UInt8,Op.bytesLess a b=true→Op.bytesLess b c=true→Op.bytesLess a c=true
  | [], [],_,h,_=>by simp [Op.bytesLess] at h
  | _::_, [],_,h,_=>by simp [Op.bytesLess] at h
  | [],_::_, [],_,h=>by simp [Op.bytesLess] at h
  | _::_,_::_, [],_,h=>by simp [Op.bytesLess] at h
  | [],_::_,_::_,_,_=>by simp [Op.bytesLess]
  | a :: x, b :: y, c :: z, h1, h2 => by
    simp only [Op.bytesLess,Bool.or_eq_true,Bool.and_eq_true,decide_eq_true_eq,beq_iff_eq,aJp] at *;rcases h1 with h1 | ⟨rfl,h1⟩
    · rcases h2 with h2 | ⟨rfl, h2⟩
      · left;omega
      left;exact h1
    rcases h2 with h2 | ⟨rfl,h2⟩
    · left;exact h2
    right;exact⟨rfl,Jf x y z h1 h2⟩
theorem jT(a:ByteArray):cS a a=false:=Dr _
theorem mR {a b c:ByteArray} (h1:cS a b=true)(h2:cS b c=true):cS a c=true:=Jf _ _ _ h1 h2
theorem Kb(a b:ByteArray):cS a b=true∨a=b∨cS b a=true:=by
  have h:=qW a.toList b.toList;unfold cS;cases h1:Op.bytesLess a.toList b.toList with
  | true=>left;rfl
  | false =>
    rw [h1,Bool.false_or,kQ] at h;cases h2:Op.bytesLess b.toList a.toList with
    | true=>right;right;rfl
    | false=>rw [h2] at h;right;left;simpa using h
theorem Lk {a b:ByteArray} (h:cS a b=true):cS b a=false:=by
  cases h2:cS b a with
  | false=>rfl
  | true=>have:=mR h h2;rw [jT] at this;cases this
theorem xY {a b:ByteArray} (h:cS a b=true):a≠b:=by rintro rfl;rw [jT] at h;cases h
theorem Im {a b:ByteArray} (h:cS a b=false)(hn:a≠b):cS b a=true:=by
  rcases Kb a b with h1 | h1 | h1
  · rw [h1] at h;cases h
  · exact absurd h1 hn
  exact h1
def Bh(a b:ByteArray):Int:=if cS a b=true then -1 else if cS b a=true then 1 else 0
theorem Ai(a b:ByteArray):Bh a b<0↔cS a b=true:=by
  unfold Bh;repeat' split
  all_goals simp_all
theorem Pd(a b:ByteArray):0≤Bh a b↔cS a b=false:=by
  have:=Ai a b;rw [← Bool.not_eq_true,← this];omega
theorem De(a b:ByteArray):Bh a b=0↔a=b:=by
  unfold Bh
  repeat' split
  · rename_i h;simp;exact xY h
  · rename_i h;simp;exact fun e=>xY h e.symm
  rename_i h1 h2;simp only [true_iff];rcases Kb a b with h | h | h
  · exact absurd h h1
  · exact h
  exact absurd h h2
section
variable {α:Type} (nm:α→ByteArray)
def gU:List α→ByteArray→Nat
  | [],_=>0
  | q::l,c=>if cS (nm q) c=true then gU l c+1 else 0
def Gw:List α→ByteArray→Bool
  | [],_=>false
  | q::l,c=>if cS (nm q) c=true then Gw l c else decide (nm q=c)
def eZ:List α→α→List α
  | [],p=> [p]
  | q::l,p=>if cS (nm q) (nm p)=true then q::eZ l p else if nm q=nm p then p::l else p::q::l
def cK(l:List α):Prop:=l.Pairwise fun a b=>cS (nm a) (nm b)=true
def jG(l:List α):List α:=l.foldl (eZ nm) []
def mU(l:List α)(c:ByteArray):Bool:=l.any fun p=>decide (nm p=c)
def jA(l:List α)(c:ByteArray):List α:=l.filter fun p=> !decide (nm p=c)
theorem Fv(l:List α)(c:ByteArray):gU nm l c≤l.length:=by
  induction l with
  | nil=>exact Nat.le_refl _
  | cons q l ih=>unfold gU;split <;> simp <;> omega
theorem Es:∀(l:List α) (c:ByteArray) (i:Nat),i≤l.length→(∀j (h:j<l.length),j<i→cS (nm l[j]) c=true)→(∀h:i<l.length,cS (nm l[i]) c=false)→gU nm l c=i
  | [],c,i,hi,_,_=>by simp at hi;subst hi;rfl
  | q :: l, c, 0, _, _, h2 => by
    have:=h2 (by simp);simp only [List.getElem_cons_zero] at this;simp [gU,this]
  | q :: l, c, i + 1, hi, h1, h2 => by
    have h0:=h1 0 (by simp) (by omega);simp only [List.getElem_cons_zero] at h0;have:=Es l c i (by simpa using hi) (fun j h hj=>h1 (j+1) (by simpa using h) (by omega)) (fun h=>h2 (by simpa using h));simp [gU,h0,this]
theorem Ms:∀(l:List α) (c:ByteArray) (h:gU nm l c<l.length),Gw nm l c=decide (nm l[gU nm l c]=c)
  | [],c,h=>by simp at h
  | q :: l, c, h => by
    by_cases e:cS (nm q) c=true
    · have hp : gU nm (q :: l) c = gU nm l c + 1 := by simp [gU, e]
      have h':gU nm l c<l.length:=by rw [hp] at h;simpa using h
      have:=Ms l c h';simp only [Gw,e,if_true,this,hp,List.getElem_cons_succ]
    have hp:gU nm (q::l) c=0:=by simp [gU,e]
    simp only [Gw,e,if_false,hp,List.getElem_cons_zero];rfl
theorem xZ:∀(l:List α) (c:ByteArray),gU nm l c=l.length→Gw nm l c=false
  | [],c,_=>rfl
  | q :: l, c, h => by
    by_cases e:cS (nm q) c=true
    · have hp : gU nm (q :: l) c = gU nm l c + 1 := by simp [gU, e]
      simp only [Gw,e,if_true];exact xZ l c (by rw [hp] at h;simpa using h)
    have hp:gU nm (q::l) c=0:=by simp [gU,e]
    rw [hp] at h;simp at h
theorem Fa {l:List α} {c:ByteArray} (h:Gw nm l c=true):gU nm l c<l.length:=by
  have:=Fv nm l c;rcases Nat.lt_or_ge (gU nm l c) l.length with h1 | h1
  · exact h1
  have:=xZ nm l c (by omega);rw [h] at this;cases this
theorem tE:∀(l:List α) (p:α),eZ nm l p=if Gw nm l (nm p)=true then l.set (gU nm l (nm p)) p else dK l (gU nm l (nm p)) p
  | [],p=>rfl
  | q :: l, p => by
    by_cases e:cS (nm q) (nm p)=true
    · have ih := tE l p
      simp only [eZ,Gw,gU,e,if_true,ih];split <;> simp [dK]
    simp only [eZ,Gw,gU,e,if_false];by_cases e2:nm q=nm p <;> simp [e2,dK]
theorem Ba(l:List α)(p:α):(eZ nm l p).length≤l.length+1:=by
  induction l with
  | nil=>simp [eZ]
  | cons q l ih => unfold eZ; repeat' split
                   all_goals simp
                   all_goals omega
theorem aBe {l:List α} {p x:α} (h:x∈eZ nm l p):x=p∨x∈l:=by
  induction l with
  | nil=>simp [eZ] at h;exact .inl h
  | cons q l ih =>
    unfold eZ at h;split at h
    · rcases List.mem_cons.1 h with h | h
      · exact .inr (by simp [h])
      rcases ih h with h | h
      · exact .inl h
      exact .inr (by simp [h])
    split at h
    · rcases List.mem_cons.1 h with h | h
      · exact .inl h
      exact .inr (by simp [h])
    rcases List.mem_cons.1 h with h | h
    · exact .inl h
    exact .inr h
theorem pJ {l:List α} (h:cK nm l)(p:α):cK nm (eZ nm l p):=by
  induction l with
  | nil=>simp [eZ,cK]
  | cons q l ih =>
    have h':=List.pairwise_cons.1 h;unfold eZ;split
    · rename_i e
      refine List.pairwise_cons.2 ⟨fun x hx=>?_,ih h'.2⟩;rcases aBe nm hx with rfl | hx
      · exact e
      exact h'.1 x hx
    rename_i e;split
    · rename_i e2
      exact List.pairwise_cons.2 ⟨fun x hx=>by rw [← e2];exact h'.1 x hx,h'.2⟩
    rename_i e2;have e3:=Im (by simpa using e) e2;refine List.pairwise_cons.2 ⟨fun x hx=>?_,h⟩;rcases List.mem_cons.1 hx with rfl | hx
    · exact e3
    exact mR e3 (h'.1 x hx)
theorem qA(l:List α)(p:α):jG nm (l++ [p])=eZ nm (jG nm l) p:=by simp [jG,List.foldl_append]
theorem zC(l:List α)(k:Nat)(h:k<l.length):jG nm (l.take (k+1))=eZ nm (jG nm (l.take k)) l[k]:=by rw [dA l k h,qA]
theorem jK(l:List α):cK nm (jG nm l):=by
  induction l using uE with
  | h0=>simp [jG,cK]
  | h1 l x ih=>rw [qA];exact pJ nm ih x
theorem lO(l:List α):(jG nm l).length≤l.length:=by
  induction l using uE with
  | h0=>simp [jG]
  | h1 l x ih=>rw [qA];have:=Ba nm (jG nm l) x;simp;omega
theorem Ud {l:List α} {p:α} (h:∀x∈l,cS (nm x) (nm p)=true):eZ nm l p=l++ [p]:=by
  induction l with
  | nil=>rfl
  | cons q l ih =>
    have:=h q (by simp);simp only [eZ,this,if_true,List.cons_append];rw [ih fun x hx=>h x (by simp [hx])]
theorem qM {l:List α} (h:cK nm l):jG nm l=l:=by
  induction l using uE with
  | h0=>rfl
  | h1 l x ih =>
    have h':=List.pairwise_append.1 h;rw [qA,ih h'.1,Ud nm fun y hy=>h'.2.2 y hy x (by simp)]
theorem Qg {l:List α} (h:cK nm l)(c:ByteArray):Gw nm l c=mU nm l c:=by
  induction l with
  | nil=>rfl
  | cons q l ih =>
    have h':=List.pairwise_cons.1 h;unfold Gw mU;simp only [List.any_cons];split
    · rename_i e
      rw [ih h'.2];have:¬nm q=c:=xY e;simp [this,mU]
    rename_i e;have:(l.any fun p=>decide (nm p=c))=false:=by
      rw [List.any_eq_false];intro x hx;simp only [decide_eq_true_eq];rintro rfl;have:=h'.1 x hx;exact e this
    rw [this,Bool.or_false]
theorem xG {l:List α} (h:cK nm l)(c:ByteArray):cK nm (jA nm l c):=List.Pairwise.filter _ h
theorem sT(l:List α)(c:ByteArray):(jA nm l c).length≤l.length:=List.length_filter_le _ _
theorem yY {l:List α} (c:ByteArray):((jA nm l c).length=l.length)↔mU nm l c=false:=by
  unfold jA mU;rw [List.length_filter_eq_length_iff,List.any_eq_false];simp
theorem rB(l:List α)(c:ByteArray)(k:Nat)(h:k<l.length):jA nm (l.take (k+1)) c=jA nm (l.take k) c++if nm l[k]=c then [] else [l[k]]:=by
  unfold jA;rw [dA l k h,List.filter_append,List.filter_cons];by_cases e:nm l[k]=c <;> simp [e]
theorem aF9 {l:List α} {c:ByteArray} {m:Nat} (hs:cK nm l)(hm:m<l.length)(h:cS (nm l[m]) c=true):∀j (h:j<l.length),j<m+1→cS (nm l[j]) c=true:=fun j hj hjm=>by
  rcases Nat.lt_or_ge j m with h1 | h1
  · exact mR (List.pairwise_iff_getElem.1 hs j m hj hm h1) h
  obtain rfl:j=m:=by omega
  exact h
theorem aGh {l:List α} {c:ByteArray} {m:Nat} (hs:cK nm l)(hm:m<l.length)(h:cS (nm l[m]) c=false):∀j (h:j<l.length),m≤j→cS (nm l[j]) c=false:=fun j hj hjm=>by
  rcases Nat.lt_or_ge m j with h1 | h1
  · have := List.pairwise_iff_getElem.1 hs m j hm hj h1
    cases e:cS (nm l[j]) c with
    | false=>rfl
    | true=>rw [mR this e] at h;cases h
  obtain rfl:j=m:=by omega
  exact h
def iF(p:α)(s:List α×Bool)(x:α):List α×Bool:=
  let s1:=if s.2=false∧cS (nm x) (nm p)=false then(s.1++ [p],true)else s
  if nm x=nm p then s1 else(s1.1++ [x],s1.2)
def lJ(l:List α)(p:α):List α×Bool:=l.foldl (iF nm p) ([],false)
def Ry(s:List α×Bool)(p:α):List α:=if s.2=true then s.1 else s.1++ [p]
theorem kG(l:List α)(p:α)(k:Nat)(h:k<l.length):lJ nm (l.take (k+1)) p=iF nm p (lJ nm (l.take k) p) l[k]:=by
  unfold lJ;rw [dA l k h,List.foldl_append];rfl
theorem Uc(l:List α)(p:α):(lJ nm l p).1.length≤l.length+(if(lJ nm l p).2=true then 1 else 0):=by
  induction l using uE with
  | h0=>simp [lJ]
  | h1 l x ih =>
    have e:lJ nm (l++ [x]) p=iF nm p (lJ nm l p) x:=by unfold lJ;rw [List.foldl_append];rfl
    rw [e];generalize lJ nm l p=s at ih;obtain⟨o,b⟩:=s;unfold iF;cases b <;> by_cases e1:cS (nm x) (nm p)=false <;> by_cases e2:nm x=nm p <;> simp_all <;> omega
theorem zX(p:α):∀(l o:List α),(l.foldl (iF nm p) (o,true))=(o++jA nm l (nm p),true)
  | [],o=>by simp [jA]
  | x :: l, o => by
    rw [List.foldl_cons];have e:iF nm p (o,true) x=(if nm x=nm p then o else o++ [x],true):=by
      unfold iF;simp;split <;> rfl
    rw [e,zX p l];unfold jA;by_cases e2:nm x=nm p <;> simp [e2]
theorem xA (p : α) : ∀ (l o : List α), cK nm l → Ry (l.foldl (iF nm p) (o, false)) p = o ++ eZ nm l p
  | [],o,_=>by simp [Ry,eZ]
  | x :: l, o, h => by
    have h':=List.pairwise_cons.1 h;rw [List.foldl_cons];by_cases e1:cS (nm x) (nm p)=true
    · have e : iF nm p (o, false) x = (o ++ [x], false) := by
        unfold iF;simp [e1,xY e1]
      rw [e,xA p l _ h'.2];simp [eZ,e1]
    have e1':cS (nm x) (nm p)=false:=by simpa using e1
    have hid:∀y∈l,nm y≠nm p:=fun y hy hp=>e1 (by have:=h'.1 y hy;rw [hp] at this;exact this);have hdel:jA nm l (nm p)=l:=by
      unfold jA;rw [List.filter_eq_self];intro y hy;simp [hid y hy]
    have e:iF nm p (o,false) x=(if nm x=nm p then o++ [p] else o++ [p]++ [x],true):=by
      unfold iF;simp [e1'];split <;> rfl
    rw [e,zX,hdel];by_cases e2:nm x=nm p <;> simp [Ry,eZ,e1,e2,jT]
theorem Dn {l:List α} (h:cK nm l)(p:α):Ry (lJ nm l p) p=eZ nm l p:=by
  have:=xA nm p l [] h;simpa [lJ] using this
def lH(out:List α)(c:ByteArray):Bool:=match out.getLast? with | none=>true | some q=>cS (nm q) c
def Bn(l out:List α):Option α:=((jG nm l).filter fun p=>lH nm out (nm p)).head?
theorem Ik {g:ByteArray→Bool} (hup:∀a b,cS a b=true→g a=true→g b=true):∀(l:List α) (p:α),(eZ nm l p).filter (fun q=>g (nm q))=if g (nm p)=true then eZ nm (l.filter fun q=>g (nm q)) p else l.filter fun q=>g (nm q)
  | [],p=>by by_cases e:g (nm p)=true <;> simp [eZ,e]
  | q :: l, p => by
    have ih:=Ik hup l p;by_cases e:cS (nm q) (nm p)=true
    · simp only [eZ, e, if_true, List.filter_cons, ih]
      by_cases e1:g (nm q)=true <;> by_cases e2:g (nm p)=true <;> simp [e1,e2,eZ,e]
    by_cases e3:nm q=nm p
    · simp only [eZ, e, e3, if_true, if_false, List.filter_cons]
      by_cases e2:g (nm p)=true
      · simp [e2,eZ,e3,jT]
      simp [e2,jT]
    simp only [eZ,e,e3,if_false,List.filter_cons];have e4:=Im (by simpa using e) e3;by_cases e2:g (nm p)=true
    · have e1 := hup _ _ e4 e2
      simp [e1,e2,eZ,e,e3]
    by_cases e1:g (nm q)=true <;> simp [e1,e2,eZ,e,e3]
theorem aCr(out:List α):∀a b,cS a b=true→lH nm out a=true→lH nm out b=true:=by
  intro a b h1 h2;unfold lH at *;split
  · rfl
  rename_i q hq;rw [hq] at h2;exact mR h2 h1
theorem Tj(l out:List α)(k:Nat)(h:k<l.length):Bn nm (l.take (k+1)) out=if lH nm out (nm l[k])=true then(match Bn nm (l.take k) out with | none=>some l[k] | some q=>if cS (nm q) (nm l[k])=true then some q else some l[k])else Bn nm (l.take k) out:=by
  unfold Bn;rw [zC nm l k h,Ik nm (aCr nm out)];split
  · cases (jG nm (l.take k)).filter fun p => lH nm out (nm p) with
    | nil=>rfl
    | cons q r =>
      simp only [eZ,List.head?_cons]
      repeat' split
      all_goals rfl
  rfl
theorem aHv(l out:List α):Bn nm (l.take 0) out=none:=by simp [Bn,jG]
theorem aCd (l : List α) (k : Nat) (hk : k ≤ (jG nm l).length) : Bn nm l ((jG nm l).take k) = (jG nm l)[k]? := by
  have hs := jK nm l;unfold Bn;generalize jG nm l = S at *;have hd : (S.filter fun p => lH nm (S.take k) (nm p)) = S.drop k := by
    cases k with
    | zero=>simp [lH]
    | succ k =>
      have hl:(S.take (k+1)).getLast?=some S[k]:=by rw [dA S k (by omega),List.getLast?_concat]
      have hg:∀p,lH nm (S.take (k+1)) (nm p)=cS (nm S[k]) (nm p):=fun p=>by unfold lH;rw [hl]
      simp only [hg];have hsplit:∀q:α→Bool,S.filter q=(S.take (k+1)).filter q++(S.drop (k+1)).filter q:=fun q=>by rw [← List.filter_append,List.take_append_drop]
      rw [hsplit];have hp:(S.take (k+1)++S.drop (k+1)).Pairwise fun a b=>cS (nm a) (nm b)=true:=by rw [List.take_append_drop];exact hs
      have h3:=List.pairwise_append.1 hp;have hmem:S[k]∈S.take (k+1):=by rw [dA S k (by omega)];exact List.mem_append_right _ (List.mem_singleton.2 rfl)
      have f2:(S.drop (k+1)).filter (fun p=>cS (nm S[k]) (nm p))=S.drop (k+1):=by
        rw [List.filter_eq_self];exact fun x hx=>h3.2.2 _ hmem x hx
      have f1:(S.take (k+1)).filter (fun p=>cS (nm S[k]) (nm p))= []:=by
        rw [List.filter_eq_nil_iff];intro x hx;rw [dA S k (by omega)] at hx h3;rcases List.mem_append.1 hx with hx | hx
        · have := (List.pairwise_append.1 h3.1).2.2 x hx S[k] (by simp)
          rw [Lk this];simp
        simp at hx;subst hx;rw [jT];simp
      rw [f1,f2,List.nil_append]
  rw [hd,List.head?_drop]
end
end Go.Proofs.YtbgfljpnhhdkoaaGreat
