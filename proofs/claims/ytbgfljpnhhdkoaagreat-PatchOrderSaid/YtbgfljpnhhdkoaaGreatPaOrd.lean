import Derived.Test.YtbgfljpnhhdkoaaGreatWkWv0
import Derived.Test.YtbgfljpnhhdkoaaGreatWkPa3
open Go.Proofs.Tryz
set_option maxHeartbeats 1000000
set_option linter.all false
namespace Go.Proofs.YtbgfljpnhhdkoaaGreat
open Go Go.Vm
def TagOk(n:ND):Prop:=n.ID≠0→n.kind=2→fS n.tag=true
def TagsOk(x:RD):Prop:=∀n∈x.l,TagOk n
theorem TagsOk.new(most:Int):TagsOk (newX most):=fun n hn=>by
 have:n=lM:=by simpa [newX] using hn
 subst this;intro h;exact absurd rfl h
theorem TagsOk.find {x:RD} (h:TagsOk x) {id:Int} (hl:dF x.l id=true):TagOk (aF x.l id):=by
 obtain⟨n,h1,h2,h3⟩:=dQ hl;rw [h3];exact h n h1
theorem TagOk.put {l:List ND} (h:∀n∈l,TagOk n) {n':ND} (hn:TagOk n'):∀n∈dH l n',TagOk n:=fun n hm=>by
 unfold dH at hm;obtain⟨y,hy,rfl⟩:=List.mem_map.1 hm;split
 ·exact hn
 exact h y hy
theorem TagsOk.add {x:RD} (h:TagsOk x)(kind:Int)(s:ByteArray)(hk:kind=1∨kind=2):TagsOk (addX x kind s).1:=by
 unfold addX;split
 ·exact h
 rename_i c1;split
 ·exact h
 intro n hn;rcases List.mem_append.1 hn with hn | hn
 ·exact h n hn
 have:n=kW x.next kind s:=by simpa using hn
 subst this;intro h1 h2;have hk2:kind=2:=h2;subst hk2;have:fS s=true:=by
  cases hs:fS s with
  | true=>rfl
  | false=>exact absurd ⟨rfl,hs⟩ c1
 simpa [kW] using this
theorem TagsOk.ins {x:RD} (h:TagsOk x)(b:Int→List Int)(p at_ id:Int):TagsOk (insX x b p at_ id).1:=by
 unfold insX;split
 ·exact h
 rename_i c1;have i1:dF x.l p=true:=by cases q:dF x.l p with | true=>rfl | false=>exact absurd (.inl q) c1
 have i2:dF x.l id=true:=by cases q:dF x.l id with | true=>rfl | false=>exact absurd (.inr q) c1
 split
 ·exact h
 split
 ·exact h
 show ∀n∈dH (dH x.l _) _,TagOk n
 refine TagOk.put (TagOk.put h ?_) ?_
 ·exact h.find i1
 exact h.find i2
theorem TagsOk.mov {x:RD} (h:TagsOk x)(id at_:Int):TagsOk (movX x id at_).1:=by
 unfold movX;split
 ·exact h
 split
 ·exact h
 rename_i c2;have i1:dF x.l (aF x.l id).parent=true:=by cases q:dF x.l (aF x.l id).parent with | true=>rfl | false=>exact absurd (.inl q) c2
 show ∀n∈dH x.l _,TagOk n
 refine TagOk.put h ?_;exact h.find i1
theorem TagsOk.rem {x:RD} (h:TagsOk x)(b:Int→List Int)(id:Int):TagsOk (remX x b id).1:=by
 unfold remX;split
 ·exact h
 split
 ·exact h
 intro n hn;have hn:=(List.mem_filter.1 hn).1;unfold remP at hn;split at hn
 ·rename_i c;exact TagOk.put h (by exact h.find c) n hn
 exact h n hn
theorem TagsOk.chN {n n':ND} (h:TagOk n) {kind:Int} {name v:ByteArray} {num:Int} (hv:¬(¬kind=1∧fS name=false))(e:chN n kind name v num=some n'):TagOk n':=by
 unfold Go.Proofs.YtbgfljpnhhdkoaaGreat.chN at e;split at e
 ·rename_i c;cases e;intro _ _;cases q:fS name with
  | true=>rfl
  | false=>exact absurd ⟨by omega,q⟩ hv
 all_goals first | (cases e;exact h) | skip
 (repeat' split at e) <;> first | (cases e;exact h) | cases e
theorem TagsOk.set {x:RD} (h:TagsOk x)(kind id:Int)(name v:ByteArray)(num:Int):TagsOk (setX x kind id name v num).1:=by
 unfold setX;split
 ·exact h
 rename_i c1;have i1:dF x.l id=true:=by cases q:dF x.l id with | true=>rfl | false=>exact absurd q c1
 split
 ·exact h
 split
 ·exact h
 split
 ·exact h
 rename_i c4;split
 ·exact h
 rename_i n hn;exact TagOk.put h (TagsOk.chN (h.find i1) c4 hn)
section
variable {k m M l:Nat} {d:DS} {rk:Int→Nat} {x:RD} {σ:List (List D)} {ops:List TOp}
theorem Wr(h:LX k m M l d rk x ops σ)(hk:k≤790)(i:Int)(s:ByteArray)(hs:s.size≤1000):∃d' rk' y c ops' σ',Ct prog 23 [.ref l 0,D.int i,D.str s] σ (fun r τ=>r=D.int c∧τ=σ')∧LX (k+1) m M l d' rk' y ops' σ'∧
  Oth m (· =l) d d' σ σ'∧(((dF d.l i=true∧¬i=0∧(aF d.l i).kind=2∧(aF d.l i).tag=s)∧c=0∧y=x∧ops'=ops)∨(¬(dF d.l i=true∧¬i=0∧(aF d.l i).kind=2∧(aF d.l i).tag=s)∧setX x 0 i s ⟨#[]⟩ 0=(y,c)∧ops'=La ops c ⟨6,i,0,0,s,⟨#[]⟩⟩∧
   ∀τ,Ct prog 161 [eN x,jY ⟨6,i,0,0,s,⟨#[]⟩⟩] τ (fun r τ'=>r= .tup [eN y,D.int c]∧τ'=τ))):=by
 by_cases q:dF d.l i=true∧¬i=0∧(aF d.l i).kind=2∧(aF d.l i).tag=s
 ·exact⟨d,rk,x,0,ops,σ,Yi k m M l d rk x ops i s σ h (by omega) q,h.keep,Oth.refl _ _ _ _,.inl ⟨q,rfl,rfl,rfl⟩⟩
 obtain⟨d',rk',y,c,σ',hc,hx,hd,hr,ho⟩:=aHi h (by omega) i s hs;obtain⟨b,b2,n,h1,h2,h3⟩:=hd;exact⟨d',rk',y,c,_,σ',Xq k m M l d rk x ops i s c σ' σ h (by omega) q hc,hx,ho,.inr ⟨q,by simpa using h3.2.2.2.2.2.2.2 (by simp) (by simp),rfl,hr⟩⟩
end
abbrev ulB:ByteArray:=⟨#[117,108]⟩
abbrev Sx:ByteArray:=⟨#[108,105]⟩
def pAw:List Act:= [⟨0,0,0,0,ulB,⟨#[]⟩⟩,⟨0,0,0,0,Sx,⟨#[]⟩⟩,⟨0,0,0,0,Sx,⟨#[]⟩⟩]
def pX:Nat→RD
 | 0=>newX 20
 | k+1=>(addX (pX k) 2 (if k=0 then ulB else Sx)).1
theorem DoS.el' {a:Act} {x y:RD} (h:DoS a x y)(q:(bX a).kind=0):y=(addX x 2 (bX a).name).1:=by
 cases h with
 | el=>rfl
 | tx q1=>omega
 | ins b q1=>omega
 | mov q1=>omega
 | rem b q1=>omega
 | set q1=>omega
 | no q1=>exact absurd q q1
theorem Zk(k:Nat)(hk:k<pAw.length)(x y:RD)(hx:x=pX k)(h:DoS pAw[k] x y):y=pX (k+1):=by
 subst hx
 match k,hk with
 | 0,_=>exact h.el' rfl
 | 1,_=>exact h.el' rfl
 | 2,_=>exact h.el' rfl
def pN(i:Int)(s:ByteArray):ND:=⟨i,2,s,⟨#[]⟩, [], [], [], -1, []⟩
def pX3:RD:=⟨20,4, [lM,pN 1 ulB,pN 2 Sx,pN 3 Sx]⟩
theorem aMk:pX 3=pX3:=by decide+kernel
theorem pS1:eJ [] [2,3]= [⟨2,3,0⟩,⟨2,2,0⟩]:=by decide+kernel
theorem pR1:(fU [] (bF [2,3]) (bF (eC [] (bF [2,3]))) (bF [2,3]).length).1= [2,3]:=by decide+kernel
theorem pS2:∃i a,eJ [2,3] [3,2]= [⟨3,i,a⟩]:=⟨_,_,(by decide+kernel:eJ [2,3] [3,2]= [⟨3,3,0⟩])⟩
theorem aJ1:aF (pX 3).l 1=pN 1 ulB∧aF (pX 3).l 2=pN 2 Sx∧aF (pX 3).l 3=pN 3 Sx∧dF (pX 3).l 1=true∧dF (pX 3).l 2=true∧dF (pX 3).l 3=true∧dF (pX 3).l 9=false:=by
 rw [aMk];exact⟨rfl,rfl,rfl,rfl,rfl,rfl,rfl⟩
theorem Jr {l:List ND} {rk:Int→Nat} (hd:Dec l rk) {i:Int} (h:(aF l i).kids= []):bN l rk i= [i]:=by rw [gA hd,h];rfl
theorem zS {l:List ND} {rk:Int→Nat} (hd:Dec l rk) {p i:Int} (h:(aF l i).kids= [])(hl:dF l i=true)(h0:¬i=0)(hp:(aF l i).parent<0)(hne:¬i=p):jP l (bN l rk) p i=true:=by
 rw [Sh];refine⟨hl,h0,hp,?_⟩;unfold gW;rw [Jr hd h];simp [hne]
theorem aKa {k m M l:Nat} {d:DS} {rk:Int→Nat} {σ:List (List D)} (h:LX k m M l d rk (pX 3) [] σ) {c:Int} {y:RD} {o:List TOp} (hk:Ia d rk (pX 3) [] 1 (eJ (aF d.l 1).kids [2,3]) c y o):
  c=0∧KI (pX 3) y 1 [2,3]∧∃p1 p2,o= [p1,p2]:=by
 obtain⟨f1,f2,f3,l1,l2,l3,l9⟩:=aJ1;have hf:=Sj h.ix;have hl:=Ol h.ix;have hD:=h.ix.iv.wt.Dec;rw [hf] at f1 f2 f3;rw [hl] at l1 l2 l3;have e1:(aF d.l 1).kids= []:=by rw [f1];rfl
 have hS:eJ (aF d.l 1).kids [2,3]= [⟨2,3,0⟩,⟨2,2,0⟩]:=by rw [e1];exact pS1
 have hb:∀s∈eJ (aF d.l 1).kids [2,3],¬sG d.l (bN d.l rk) 1 s:=by
  rw [hS];intro s hs;simp only [List.mem_cons,List.not_mem_nil,or_false] at hs;rcases hs with rfl | rfl
  ·exact Av rfl (zS hD (by rw [f3];rfl) l3 (by decide) (by rw [f3];decide) (by decide))
  exact Av rfl (zS hD (by rw [f2];rfl) l2 (by decide) (by rw [f2];decide) (by decide))
 have hk2:(aF d.l 1).kind=2:=by rw [f1];rfl
 rcases hk with ⟨a, -⟩ | ⟨-,a, -⟩ | ⟨-, -,⟨⟨s,a1,a2⟩, -⟩ | ⟨-,rfl,a⟩⟩
 ·rw [l1] at a;cases a
 ·exact absurd hk2 a
 ·exact absurd a2 (hb s a1)
 obtain⟨r1,r2, -⟩:=Fa h.ix l1 hk2 hb a (pX 3);rw [e1,pR1] at r2;rw [hS] at r1;exact⟨rfl,r2,_,_,r1⟩
theorem aKt {k m M l:Nat} {d:DS} {rk:Int→Nat} {σ:List (List D)} {y:RD} {o:List TOp} (h:LX k m M l d rk y o σ)(ki:KI (pX 3) y 1 [2,3]) {c:Int} {z:RD} {o2:List TOp} (hk:Ia d rk y o 1 (eJ (aF d.l 1).kids [3,2]) c z o2):
  c=0∧(∃q,o2=o++ [q]∧q.kind=4)∧dF z.l 9=false:=by
 obtain⟨f1,f2,f3,l1,l2,l3,l9⟩:=aJ1;have hf:=Sj h.ix;have hl:=Ol h.ix;have e1:(aF d.l 1).kids= [2,3]:=by rw [← hf,ki.kk 1,if_pos rfl]
 have hk2:(aF d.l 1).kind=2:=by rw [← hf];exact ki.kd
 have hl1:dF d.l 1=true:=by rw [← hl,ki.il];exact l1
 obtain⟨i,a,hS⟩:=pS2;rw [← e1] at hS;have hb:∀s∈eJ (aF d.l 1).kids [3,2],¬sG d.l (bN d.l rk) 1 s:=by
  rw [hS];intro s hs;simp only [List.mem_cons,List.not_mem_nil,or_false] at hs;subst hs;exact zH (by simp) (by simp)
 rcases hk with ⟨a, -⟩ | ⟨-,a, -⟩ | ⟨-, -,⟨⟨s,a1,a2⟩, -⟩ | ⟨-,rfl,a⟩⟩
 ·rw [hl1] at a;cases a
 ·exact absurd hk2 a
 ·exact absurd a2 (hb s a1)
 obtain⟨r1,r2, -⟩:=Fa h.ix hl1 hk2 hb a y;rw [hS] at r1;exact⟨rfl,⟨_,r1,rfl⟩,by rw [r2.il,ki.il];exact l9⟩
theorem aH1 {k m M l:Nat} {d:DS} {rk:Int→Nat} {σ:List (List D)} {y:RD} {o:List TOp} (h:LX k m M l d rk y o σ)(hk:k≤700)(h9:dF y.l 9=false):∃σ',Ct prog 23 [.ref l 0,D.int 9,D.str ⟨#[112]⟩] σ (fun r τ=>r=D.int 11∧τ=σ'):=by
 obtain⟨d',rk',z,c,o',σ',hc, -, -,hh⟩:=Wr h (by omega) 9 ⟨#[112]⟩ (by decide);rw [Ol h.ix] at h9;rcases hh with ⟨⟨a, -⟩, -⟩ | ⟨-,hs, -⟩
 ·rw [h9] at a;cases a
 rw [Hb (by rw [Ol h.ix];exact h9)] at hs;cases hs;exact⟨σ',hc⟩
theorem zC {α:Type} {z:α} :∀ {A C B D:List α},z∉A→z∉C→A++z::B=C++z::D→A=C∧B=D
 | [], [],B,D,_,_,h=>by simpa using h
 | [],c::C,B,D,_,hc,h=>by
  simp only [List.nil_append,List.cons_append,List.cons.injEq] at h;exact absurd (h.1 ▸ List.mem_cons_self) hc
 | a::A, [],B,D,ha,_,h=>by
  simp only [List.nil_append,List.cons_append,List.cons.injEq] at h;exact absurd (h.1 ▸ List.mem_cons_self) ha
 | a::A,c::C,B,D,ha,hc,h=>by
  simp only [List.cons_append,List.cons.injEq] at h;obtain⟨h1,h2⟩:=zC (fun q=>ha (List.mem_cons_of_mem _ q)) (fun q=>hc (List.mem_cons_of_mem _ q)) h.2;exact⟨by rw [h.1,h1],h2⟩
def pJ(b os:List Int)(k:Nat)(x:Int):Bool:=decide (x∈os∨x∈b.drop (b.length - k))
theorem rA {b:List Int} {i:Nat} (hi:i<b.length):b.drop i=b[i]::b.drop (i+1):=List.drop_eq_getElem_cons hi
theorem uR {b:List Int} {i:Nat} (hi:i<b.length):b=b.take i++b[i]::b.drop (i+1):=by rw [← rA hi,List.take_append_drop]
theorem Hk {a b os:List Int} (hb:b.Nodup)(hd:fC a b= [])(hos:∀x∈os,x∈a∧x∈b)(h0:a.filter (fun x=>decide (x∈os))=b.filter (fun x=>decide (x∈os))):∀k,k≤b.length→(fU a b os k).1.filter (pJ b os k)=b.filter (pJ b os k)
 | 0,_=>by
  have e:pJ b os 0=fun x=>decide (x∈os):=by funext x;unfold pJ;simp
  rw [e];show(a.filter _).filter _=_
  rw [drop_nil hd];exact h0
 | k + 1, hk => by
  have ih:=Hk hb hd hos h0 k (by omega);have hi:b.length - 1 - k<b.length:=by omega
  have inv:=uD (a:=a) hb hos k (by omega);have honly:=qY (os:=os) hd k (by omega);have hdr:b.drop (b.length - (k+1))=b[b.length - 1 - k]::b.drop (b.length - k):=by
   have:=rA hi;rw [show b.length - 1 - k+1=b.length - k by omega] at this;rw [show b.length - (k+1)=b.length - 1 - k by omega];exact this
  have hP:∀y,pJ b os (k+1) y=(pJ b os k y || decide (y=b[b.length - 1 - k])):=fun y=>by
   unfold pJ;rw [hdr];rw [Bool.eq_iff_iff];simp only [decide_eq_true_eq,Bool.or_eq_true,List.mem_cons];constructor
   ·rintro(h | h | h)
    ·exact .inl (.inl h)
    ·exact .inr h
    exact .inl (.inr h)
   rintro((h | h) | h)
   ·exact .inl h
   ·exact .inr (.inr h)
   exact .inr (.inl h)
  show(uV a b os (b.length - 1 - k) (fU a b os k)).1.filter _=_
  generalize hs:fU a b os k=s at *;by_cases hx:b[b.length - 1 - k]∈os
  ·rw [sQ hi hx];have e:pJ b os (k+1)=pJ b os k:=by
    funext y;rw [hP];by_cases q:y=b[b.length - 1 - k]
    ·subst q;have:pJ b os k b[b.length - 1 - k]=true:=by unfold pJ;simp [hx]
     rw [this];rfl
    simp [q]
   rw [e];exact ih
  rw [nD hi hx];obtain⟨q1,q2,q3⟩:=Ow hb (show k<b.length by omega) inv rfl hi hx;have hnd:b[b.length - 1 - k]∉b.drop (b.length - k):=fun hm=>by
   have hh:=hb;rw [uR hi,show b.length - 1 - k+1=b.length - k by omega] at hh;rw [List.nodup_append] at hh;exact(List.nodup_cons.1 hh.2.1).1 hm
  have hx0:pJ b os k b[b.length - 1 - k]=false:=by unfold pJ;simp [hx,hnd]
  -- without it
  obtain⟨M,hM⟩:∃M,dJ a s.1 b[b.length - 1 - k]=M:=⟨_,rfl⟩;rw [hM] at q1 q2 q3 ⊢;have hxM:b[b.length - 1 - k]∉M:=by
   rw [← hM];unfold dJ uT;split
   ·simp
   rename_i hna;intro hm;rcases honly _ hm with h | ⟨j,j1,j2,j3⟩
   ·exact hna h
   have:=(List.getElem_inj hb).1 j3;omega
  have hMf:M.filter (pJ b os k)=b.filter (pJ b os k):=by
   rw [← ih,← hM];unfold dJ uT;split
   ·rw [List.filter_filter];refine List.filter_congr fun y hy=>?_;by_cases q:y=b[b.length - 1 - k]
    ·subst q;rw [hx0];rfl
    simp [q]
   rfl
  obtain⟨pos,hpos⟩:∃p,oO b M (b.length - 1 - k)=p:=⟨_,rfl⟩;rw [hpos] at q1 q2 q3 ⊢;have hcong:∀l:List Int,b[b.length - 1 - k]∉l→l.filter (pJ b os (k+1))=l.filter (pJ b os k):=fun l hl=>List.filter_congr fun y hy=>by
   rw [hP];have:¬y=b[b.length - 1 - k]:=fun e=>hl (e ▸ hy);simp [this]
  have ht1:pJ b os (k+1) b[b.length - 1 - k]=true:=by rw [hP];simp
  have hall:(b.drop (b.length - k)).filter (pJ b os k)=b.drop (b.length - k):=List.filter_eq_self.2 fun y hy=>by unfold pJ;simp [hy]
  have hbt:b[b.length - 1 - k]∉b.take (b.length - 1 - k):=fun hm=>by
   have hh:=hb;rw [uR hi,List.nodup_append] at hh;exact hh.2.2 _ hm _ List.mem_cons_self rfl
  have hbsplit:b=b.take (b.length - 1 - k)++b[b.length - 1 - k]::b.drop (b.length - k):=by
   have:=uR hi
   rwa [show b.length - 1 - k+1=b.length - k by omega] at this
  have hgen:∀P:Int→Bool,b.filter P=(b.take (b.length - 1 - k)).filter P++(b[b.length - 1 - k]::b.drop (b.length - k)).filter P:=fun P=>by
   conv=>lhs;rw [hbsplit]
   rw [List.filter_append]
  have hbf:b.filter (pJ b os k)=(b.take (b.length - 1 - k)).filter (pJ b os k)++b.drop (b.length - k):=by
   rw [hgen,List.filter_cons_of_neg (by simp [hx0]),hall]
  have hbf1:b.filter (pJ b os (k+1))=(b.take (b.length - 1 - k)).filter (pJ b os k)++b[b.length - 1 - k]::b.drop (b.length - k):=by
   rw [hgen,List.filter_cons_of_pos (by simpa using ht1),hcong _ hbt,hcong _ hnd,hall]
  show(dG M pos b[b.length - 1 - k]).filter _=_
  unfold dG;rw [List.filter_append,List.filter_cons_of_pos (by simpa using ht1),hcong _ (fun h=>hxM (List.mem_of_mem_take h)),hcong _ (fun h=>hxM (List.mem_of_mem_drop h)),hbf1];have key:(M.take pos).filter (pJ b os k)=(b.take (b.length - 1 - k)).filter (pJ b os k)∧(M.drop pos).filter (pJ b os k)=b.drop (b.length - k):=by
   have hsum:(M.take pos).filter (pJ b os k)++(M.drop pos).filter (pJ b os k)=(b.take (b.length - 1 - k)).filter (pJ b os k)++b.drop (b.length - k):=by
    rw [← List.filter_append,List.take_append_drop,hMf,hbf]
   by_cases hlast:b.length - 1 - k+1<b.length
   ·have e:=q2 hlast;obtain⟨j,hj,e1,e2,e3⟩:=jF (x:=b[b.length - 1 - k+1]) (l:=M) (Classical.byContradiction fun hn=>by have:=Wf.2 hn;omega);have hpj:pos=j:=by omega
    subst hpj;have hz:pJ b os k b[b.length - 1 - k+1]=true:=by
     unfold pJ;have:b[b.length - 1 - k+1]∈b.drop (b.length - k):=by
      rw [show b.length - k=b.length - 1 - k+1 by omega,rA hlast];exact List.mem_cons_self
     simp [this]
    have hd1:b.drop (b.length - k)=b[b.length - 1 - k+1]::b.drop (b.length - 1 - k+1+1):=by
     rw [show b.length - k=b.length - 1 - k+1 by omega];exact rA hlast
    have hd2:(M.drop pos).filter (pJ b os k)=b[b.length - 1 - k+1]::(M.drop (pos+1)).filter (pJ b os k):=by
     rw [rA hj,e2,List.filter_cons_of_pos (by simpa using hz)]
    rw [hd1,hd2] at hsum;have n1:b[b.length - 1 - k+1]∉(M.take pos).filter (pJ b os k):=fun h=>e3 (List.mem_filter.1 h).1;have n2:b[b.length - 1 - k+1]∉(b.take (b.length - 1 - k)).filter (pJ b os k):=fun h=>by
     have h:=(List.mem_filter.1 h).1;have hh:=hb;rw [hbsplit,List.nodup_append] at hh;exact hh.2.2 _ h _ (List.mem_cons_of_mem _ (by rw [hd1];exact List.mem_cons_self)) rfl
    obtain⟨r1,r2⟩:=zC n1 n2 hsum;exact⟨r1,by rw [hd2,hd1,r2]⟩
   have hp:=q3 hlast;have hk0:b.drop (b.length - k)= []:=List.drop_eq_nil_of_le (by omega);rw [hp] at hsum ⊢;rw [hk0] at hsum ⊢;rw [List.drop_length,List.filter_nil] at hsum ⊢;simp only [List.append_nil] at hsum;exact⟨hsum,rfl⟩
  rw [key.1,key.2]
theorem Yd {a b os:List Int} (hb:b.Nodup)(hd:fC a b= [])(hos:∀x∈os,x∈a∧x∈b)(h0:a.filter (fun x=>decide (x∈os))=b.filter (fun x=>decide (x∈os))):(fU a b os b.length).1=b:=by
 have h:=Hk hb hd hos h0 b.length (Nat.le_refl _);have e:∀y∈b,pJ b os b.length y=true:=fun y hy=>by unfold pJ;simp [hy]
 have hsub:∀y∈(fU a b os b.length).1,y∈b:=fun y hy=>by
  rcases qY (os:=os) hd b.length (Nat.le_refl _) y hy with h | ⟨j,_,h1,rfl⟩
  ·have:=drop_nil hd;rw [← this] at h;simpa using(List.mem_filter.1 h).2
  exact List.getElem_mem h1
 rw [List.filter_eq_self.2 fun y hy=>e y (hsub y hy),List.filter_eq_self.2 e] at h;exact h
theorem Kx {a b os:List Int} {j:Nat} (hj:j<b.length)(hjo:b[j]∈os):∀k,k≤b.length→b.length - k≤j→(fU a b os k).2.length+1≤(fC a b).length+k
 | 0,_,h=>by omega
 | k + 1, hk, h => by
  have hle:∀k,(fU a b os k).2.length≤(fC a b).length+k:=by
   intro k;induction k with
   | zero=>exact Nat.le_refl _
   | succ k ih=>
    show(uV a b os _ _).2.length≤_
    unfold uV;split
    ·omega
    simp;omega
  have hi:b.length - 1 - k<b.length:=by omega
  show(uV a b os (b.length - 1 - k) (fU a b os k)).2.length+1≤_
  by_cases e:b.length - 1 - k=j
  ·subst e;rw [sQ hi hjo];have:=hle k;omega
  have ih:=Kx (a:=a) hj hjo k (by omega) (by omega);by_cases q:b[b.length - 1 - k]∈os
  ·rw [sQ hi q];omega
  rw [nD hi q];simp;omega
theorem Ck {a b os:List Int} (hd:fC a b= [])(h:∀x∈b,x∈os):∀k,k≤b.length→(fU a b os k).2= []
 | 0,_=>hd
 | k+1,hk=>by
  have hi:b.length - 1 - k<b.length:=by omega
  show(uV a b os (b.length - 1 - k) (fU a b os k)).2= []
  rw [sQ hi (h _ (List.getElem_mem hi))];exact Ck hd h k (by omega)
namespace Lis
theorem Xs {l:List Int} {k:Nat} (h:k<iF l l.length):wP l (k+1)<l.length∧(k=0∨(wP l (k+1)<wP l k∧at0 l (wP l (k+1))<at0 l (wP l k))):=by
 obtain⟨j,j1,j2,j3⟩:=yS l k h;have e:wP l (k+1)=j:=by show(fX l _ _ _).getD 0=j;rw [j1];rfl
 have hb:=(hU l _ _ _).1 j j1;rw [e];refine⟨j3,?_⟩;by_cases q:k=0
 ·exact .inl q
 refine .inr ⟨hb.1,?_⟩;rcases hb.2.2.1 with h1 | h1
 ·exact absurd ((aFp (l:=l) k (by omega)).1 h1) q
 exact h1
theorem aCm(l:List Int):∀m,m≤iF l l.length→(tC l m).Pairwise (fun i j=>i<j∧at0 l i<at0 l j)∧(∀i∈tC l m,i<l.length)∧(0<m→∀i∈tC l m,wP l m≤i∧at0 l (wP l m)≤at0 l i)
 | 0,_=>⟨List.Pairwise.nil,fun i h=>by simp [tC] at h,fun h=>by omega⟩
 | m + 1, h => by
  obtain⟨p1,p2,p3⟩:=aCm l m (by omega);obtain⟨s1,s2⟩:=Xs (l:=l) (k:=m) (by omega);have hlt:∀i∈tC l m,wP l (m+1)<i∧at0 l (wP l (m+1))<at0 l i:=fun i hi=>by
   rcases s2 with rfl | s2
   ·simp [tC] at hi
   by_cases q:m=0
   ·subst q;simp [tC] at hi
   have:=p3 (by omega) i hi;exact⟨by omega,by omega⟩
  refine⟨List.pairwise_cons.2 ⟨hlt,p1⟩,fun i hi=>?_,fun _ i hi=>?_⟩
  ·rcases List.mem_cons.1 hi with rfl | hi
   ·exact s1
   exact p2 i hi
  rcases List.mem_cons.1 hi with rfl | hi
  ·exact⟨Nat.le_refl _,Int.le_refl _⟩
  have:=hlt i hi;exact⟨by omega,by omega⟩
theorem ofR_up2(l:List Int):(ofR l).Pairwise (fun i j=>i<j∧at0 l i<at0 l j)∧∀i∈ofR l,i<l.length:=by
 rw [Pz];obtain⟨h1,h2,_⟩:=aCm l (iF l l.length) (Nat.le_refl _);exact⟨h1,h2⟩
theorem ofR_some {l:List Int} (h:0<l.length):ofR l≠ []:=by
 rw [Pz];have h1:=(uL l l.length).1 0 h;have h2:=(oS l 0).1;obtain⟨m,hm⟩:∃m,iF l l.length=m+1:=⟨iF l l.length - 1,by omega⟩;rw [hm];simp [tC]
end Lis
theorem oD {α:Type} [DecidableEq α]:∀ {s b:List α},s.Sublist b→b.Nodup→b.filter (fun x=>decide (x∈s))=s
 | _,_,.slnil,_=>rfl
 | s,y::b,.cons _ h,hn=>by
  have hy:=List.nodup_cons.1 hn;rw [List.filter_cons_of_neg (by simpa using fun q=>hy.1 (h.subset q))];exact oD h hy.2
 | y::s,_::b,.cons₂ _ h,hn=>by
  have hy:=List.nodup_cons.1 hn;rw [List.filter_cons_of_pos (by simp)];congr 1;have:=oD h hy.2
  conv=>rhs;rw [← this]
  refine List.filter_congr fun x hx=>?_;have:¬x=y:=fun e=>hy.1 (e ▸ hx);simp [this]
theorem Ad {b:List Int} :∀ {R:List Nat} (n:Nat),R.Pairwise (· < ·)→(∀i∈R,n≤i∧i<b.length)→(R.map fun i=>b[i]?.getD 0).Sublist (b.drop n)
 | [],n,_,_=>List.nil_sublist _
 | i :: R, n, hp, hl => by
  obtain⟨h1,h2⟩:=hl i List.mem_cons_self;have hp':=List.pairwise_cons.1 hp;have ih:=Ad (b:=b) (i+1) hp'.2 fun j hj=>⟨by have:=hp'.1 j hj;omega,(hl j (List.mem_cons_of_mem _ hj)).2⟩;rw [List.map_cons,List.getElem?_eq_getElem h2,Option.getD_some];have:(b[i]::b.drop (i+1)).Sublist (b.drop n):=by
   rw [← rA h2];rw [show i=n+(i - n) by omega,← List.drop_drop];exact List.drop_sublist _ _
  exact(List.Sublist.cons₂ _ ih).trans this
theorem Mg {a b:List Int} (ha:a.Nodup)(hb:b.Nodup)(hab:∀x∈b,x∈a):a.filter (fun x=>decide (x∈bF (eC a b)))=b.filter (fun x=>decide (x∈bF (eC a b))):=by
 have hI:fF a b=b:=List.filter_eq_self.2 fun x hx=>by simpa using hab x hx
 obtain⟨up,lt⟩:=Lis.ofR_up2 (lL a b);have hS:=aG4 a hb;rw [hI] at hS;have hl:(lL a b).length=b.length:=by rw [Dl,hI]
 have hmem:∀x,(x∈bF (eC a b))↔x∈eC a b:=fun x=>kL;simp only [hmem];have s1:(eC a b).Sublist b:=by
  rw [hS];have:=Ad (b:=b) 0 (up.imp fun h=>h.1) fun i hi=>⟨Nat.zero_le _,by have:=lt i hi;omega⟩;simpa using this
 -- by their places in the other one
 have hat:∀i,i<b.length→Lis.at0 (lL a b) i=qB (b[i]?.getD 0) a:=fun i hi=>by
  have h':i<(lL a b).length:=by omega
  rw [Lis.at0_eq h'];simp only [lL,List.getElem_map];congr 1;rw [List.getElem?_eq_getElem hi];simp only [hI,Option.getD_some]
 have s2:(eC a b).Sublist a:=by
  have e:eC a b=((Lis.ofR (lL a b)).map fun i=>(qB (b[i]?.getD 0) a).toNat).map fun i=>a[i]?.getD 0:=by
   rw [hS,List.map_map];refine List.map_congr_left fun i hi=>?_;have hi':i<b.length:=by have:=lt i hi;omega
   have hx:b[i]?.getD 0∈a:=by rw [List.getElem?_eq_getElem hi'];exact hab _ (List.getElem_mem hi')
   obtain⟨k,hk,e1,e2,_⟩:=jF hx;show _=a[(qB (b[i]?.getD 0) a).toNat]?.getD 0
   rw [e1,Int.toNat_natCast,List.getElem?_eq_getElem hk,Option.getD_some,e2]
  rw [e];have:=Ad (b:=a) (R:=(Lis.ofR (lL a b)).map fun i=>(qB (b[i]?.getD 0) a).toNat) 0 ?_ ?_
  ·simpa using this
  ·rw [List.pairwise_map];refine List.Pairwise.imp_of_mem ?_ up;intro i j hi hj h;have hi':i<b.length:=by have:=lt i hi;omega
   have hj':j<b.length:=by have:=lt j hj;omega
   have h2:=h.2;rw [hat i hi',hat j hj'] at h2;have hx:b[i]?.getD 0∈a:=by rw [List.getElem?_eq_getElem hi'];exact hab _ (List.getElem_mem hi')
   obtain⟨k,hk,e1,_⟩:=jF hx;omega
  intro q hq;obtain⟨i,hi,rfl⟩:=List.mem_map.1 hq;have hi':i<b.length:=by have:=lt i hi;omega
  have hx:b[i]?.getD 0∈a:=by rw [List.getElem?_eq_getElem hi'];exact hab _ (List.getElem_mem hi')
  obtain⟨k,hk,e1,_⟩:=jF hx;exact⟨Nat.zero_le _,by omega⟩
 rw [oD s2 ha,oD s1 hb]
theorem aBz {a b:List Int} (hb:b.Nodup)(hab:∀x∈b,x∈a)(hne:0<b.length):∃j,∃h:j<b.length,b[j]∈bF (eC a b):=by
 have hI:fF a b=b:=List.filter_eq_self.2 fun x hx=>by simpa using hab x hx
 have hl:(lL a b).length=b.length:=by rw [Dl,hI]
 have hs:=Lis.ofR_some (l:=lL a b) (by omega);obtain⟨up,lt⟩:=Lis.ofR_up2 (lL a b);obtain⟨i,R,e⟩:=List.exists_cons_of_ne_nil hs;have hi:i<b.length:=by have:=lt i (by rw [e];exact List.mem_cons_self);omega
 refine⟨i,hi,?_⟩;rw [kL,aG4 a hb,hI,e,List.map_cons,List.getElem?_eq_getElem hi];exact List.mem_cons_self
theorem Ci {a b:List Int} (h:∀x∈a,x∈b):fC a b= []:=by
 unfold fC;rw [List.map_eq_nil_iff,List.filter_eq_nil_iff];intro x hx;simp [h x hx]
theorem aD9 {K to:List Int} (hK:K.Nodup)(ht:to.Nodup)(hm:∀x,x∈to↔x∈K)(hne:0<to.length):
  (fU K (bF to) (bF (eC K (bF to))) (bF to).length).1=to∧(eJ K to).length<to.length∧∀s∈eJ K to,¬s.kind=1∧¬s.kind=2:=by
 rw [kY ht];have hd:fC K to= []:=Ci fun x hx=>(hm x).2 hx;have hos:∀x∈bF (eC K to),x∈K∧x∈to:=zP fun i hi=>by have:=Lis.ofP_lt _ i hi;rwa [kJ] at this
 have hS:eJ K to=(fU K to (bF (eC K to)) to.length).2:=by unfold eJ;rw [kY hK,kY ht]
 refine⟨Yd ht hd hos (Mg hK ht fun x hx=>(hm x).1 hx),?_,?_⟩
 ·obtain⟨j,hj,hjo⟩:=aBz (a:=K) ht (fun x hx=>(hm x).1 hx) hne;have:=Kx (a:=K) hj hjo to.length (Nat.le_refl _) (by omega);rw [hd] at this;rw [hS];simp at this;omega
 rw [hS];have key:∀k,k≤to.length→∀s∈(fU K to (bF (eC K to)) k).2,¬s.kind=1∧¬s.kind=2:=by
  intro k;induction k with
  | zero=>intro _ s hs;have hs:s∈fC K to:=hs;rw [hd] at hs;cases hs
  | succ k ih=>
   intro hk s hs;have hi:to.length - 1 - k<to.length:=by omega
   have hs:s∈(uV K to (bF (eC K to)) (to.length - 1 - k) (fU K to (bF (eC K to)) k)).2:=hs;by_cases q:to[to.length - 1 - k]∈bF (eC K to)
   ·rw [sQ hi q] at hs;exact ih (by omega) s hs
   rw [nD hi q] at hs;rcases List.mem_append.1 hs with hs | hs
   ·exact ih (by omega) s hs
   simp only [List.mem_singleton] at hs;subst hs;rw [if_pos ((hm _).1 (List.getElem_mem hi))];exact⟨by simp,by simp⟩
 exact key _ (Nat.le_refl _)
theorem Yp:∀n,n≤8→Lis.ofP ((List.range n).map fun i:Nat=>(i:Int)+1)=List.range n:=by decide+kernel
theorem aK6 {to:List Int} (ht:to.Nodup)(h8:to.length≤8):eJ to to= []:=by
 have hS:eJ to to=(fU to to (bF (eC to to)) to.length).2:=by unfold eJ;rw [kY ht]
 have hI:fF to to=to:=List.filter_eq_self.2 fun x hx=>by simpa using hx
 have hO:fI to to=(List.range to.length).map fun i:Nat=>(i:Int)+1:=by
  unfold fI;rw [hI];apply List.ext_getElem
  ·simp
  intro i h1 h2;have hi:i<to.length:=by simpa using h1
  simp only [List.getElem_map,List.getElem_range];refine(Fc hi).2 fun hm=>?_;have hh:=ht;rw [uR hi,List.nodup_append] at hh;exact hh.2.2 _ hm _ List.mem_cons_self rfl
 have hst:∀x∈to,x∈bF (eC to to):=fun x hx=>by
  rw [kL];unfold eC;rw [hO,Yp _ h8,hI];obtain⟨i,hi,rfl⟩:=List.getElem_of_mem hx;exact List.mem_map.2 ⟨i,List.mem_range.2 hi,by rw [List.getElem?_eq_getElem hi];rfl⟩
 rw [hS];exact Ck (Ci fun x hx=>hx) hst _ (Nat.le_refl _)
end Go.Proofs.YtbgfljpnhhdkoaaGreat
