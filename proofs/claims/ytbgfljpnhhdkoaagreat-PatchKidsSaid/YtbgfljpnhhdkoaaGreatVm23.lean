import Derived.Test.YtbgfljpnhhdkoaaGreatWkWv0
import Derived.Test.YtbgfljpnhhdkoaaGreatWkPa3
import Derived.Test.YtbgfljpnhhdkoaaGreatVm22
import Derived.ProofKit
open Go.Proofs.Tryz
set_option linter.all false
set_option maxHeartbeats 1000000
namespace Go.Proofs.YtbgfljpnhhdkoaaGreat
open Go Go.Vm
def TagOk(n:ND):Prop:=n.ID≠0→n.kind=2→fP n.tag=true
def TagsOk(x:RD):Prop:=∀n∈x.l,TagOk n
theorem TagsOk.new(most:Int):TagsOk (newX most):=fun n hn=>by
 have:n=mQ:=by simpa [newX] using hn
 subst this;intro h;exact absurd rfl h
theorem TagsOk.find {x:RD} (h:TagsOk x) {id:Int} (hl:cZ x.l id=true):TagOk (aG x.l id):=by
 obtain⟨n,h1,h2,h3⟩:=dM hl;rw [h3];exact h n h1
theorem TagOk.put {l:List ND} (h:∀n∈l,TagOk n) {n':ND} (hn:TagOk n'):∀n∈dK l n',TagOk n:=fun n hm=>by
 unfold dK at hm;obtain⟨y,hy,rfl⟩:=List.mem_map.1 hm;split
 ·exact hn
 exact h y hy
theorem TagsOk.add {x:RD} (h:TagsOk x)(kind:Int)(s:ByteArray)(hk:kind=1∨kind=2):TagsOk (addX x kind s).1:=by
 unfold addX;split
 ·exact h
 rename_i c1;split
 ·exact h
 intro n hn;rcases List.mem_append.1 hn with hn | hn
 ·exact h n hn
 have:n=kU x.next kind s:=by simpa using hn
 subst this;intro h1 h2;have hk2:kind=2:=h2;subst hk2;have:fP s=true:=by
  cases hs:fP s with
  | true=>rfl
  | false=>exact absurd ⟨rfl,hs⟩ c1
 simpa [kU] using this
theorem TagsOk.ins {x:RD} (h:TagsOk x)(b:Int→List Int)(p at_ id:Int):TagsOk (insX x b p at_ id).1:=by
 unfold insX;split
 ·exact h
 rename_i c1;have i1:cZ x.l p=true:=by cases q:cZ x.l p with | true=>rfl | false=>exact absurd (.inl q) c1
 have i2:cZ x.l id=true:=by cases q:cZ x.l id with | true=>rfl | false=>exact absurd (.inr q) c1
 split
 ·exact h
 split
 ·exact h
 show ∀n∈dK (dK x.l _) _,TagOk n
 refine TagOk.put (TagOk.put h ?_) ?_
 ·exact h.find i1
 exact h.find i2
theorem TagsOk.mov {x:RD} (h:TagsOk x)(id at_:Int):TagsOk (movX x id at_).1:=by
 unfold movX;split
 ·exact h
 split
 ·exact h
 rename_i c2;have i1:cZ x.l (aG x.l id).parent=true:=by cases q:cZ x.l (aG x.l id).parent with | true=>rfl | false=>exact absurd (.inl q) c2
 show ∀n∈dK x.l _,TagOk n
 refine TagOk.put h ?_;exact h.find i1
theorem TagsOk.rem {x:RD} (h:TagsOk x)(b:Int→List Int)(id:Int):TagsOk (remX x b id).1:=by
 unfold remX;split
 ·exact h
 split
 ·exact h
 intro n hn;have hn:=(List.mem_filter.1 hn).1;unfold remP at hn;split at hn
 ·rename_i c;exact TagOk.put h (by exact h.find c) n hn
 exact h n hn
theorem TagsOk.chN {n n':ND} (h:TagOk n) {kind:Int} {name v:ByteArray} {num:Int} (hv:¬(¬kind=1∧fP name=false))(e:chN n kind name v num=some n'):TagOk n':=by
 unfold Go.Proofs.YtbgfljpnhhdkoaaGreat.chN at e;split at e
 ·rename_i c;cases e;intro _ _;cases q:fP name with
  | true=>rfl
  | false=>exact absurd ⟨by omega,q⟩ hv
 all_goals first | (cases e;exact h) | skip
 (repeat' split at e) <;> first | (cases e;exact h) | cases e
theorem TagsOk.set {x:RD} (h:TagsOk x)(kind id:Int)(name v:ByteArray)(num:Int):TagsOk (setX x kind id name v num).1:=by
 unfold setX;split
 ·exact h
 rename_i c1;have i1:cZ x.l id=true:=by cases q:cZ x.l id with | true=>rfl | false=>exact absurd q c1
 split
 ·exact h
 split
 ·exact h
 split
 ·exact h
 rename_i c4;split
 ·exact h
 rename_i n hn;exact TagOk.put h (TagsOk.chN (h.find i1) c4 hn)
section
variable {k m M l:Nat} {d:DS} {rk:Int→Nat} {x:RD} {σ:List (List D)} {ops:List TOp}
theorem aBg(h:LX k m M l d rk x ops σ)(hk:k≤790)(i:Int)(s:ByteArray)(hs:s.size≤1000):∃d' rk' y c ops' σ',Ct prog 23 [.ref l 0,D.int i,D.str s] σ (fun r τ=>r=D.int c∧τ=σ')∧LX (k+1) m M l d' rk' y ops' σ'∧
  Oth m (· =l) d d' σ σ'∧(((cZ d.l i=true∧¬i=0∧(aG d.l i).kind=2∧(aG d.l i).tag=s)∧c=0∧y=x∧ops'=ops)∨(¬(cZ d.l i=true∧¬i=0∧(aG d.l i).kind=2∧(aG d.l i).tag=s)∧setX x 0 i s ⟨#[]⟩ 0=(y,c)∧ops'=Lg ops c ⟨6,i,0,0,s,⟨#[]⟩⟩∧
   ∀τ,Ct prog 161 [dS x,gX ⟨6,i,0,0,s,⟨#[]⟩⟩] τ (fun r τ'=>r= .tup [dS y,D.int c]∧τ'=τ))):=by
 by_cases q:cZ d.l i=true∧¬i=0∧(aG d.l i).kind=2∧(aG d.l i).tag=s
 ·exact⟨d,rk,x,0,ops,σ,aA9 k m M l d rk x ops i s σ h (by omega) q,h.keep,Oth.refl _ _ _ _,.inl ⟨q,rfl,rfl,rfl⟩⟩
 obtain⟨d',rk',y,c,σ',hc,hx,hd,hr,ho⟩:=aJy h (by omega) i s hs;obtain⟨b,b2,n,h1,h2,h3⟩:=hd;exact⟨d',rk',y,c,_,σ',aBd k m M l d rk x ops i s c σ' σ h (by omega) q hc,hx,ho,.inr ⟨q,by simpa using h3.2.2.2.2.2.2.2 (by simp) (by simp),rfl,hr⟩⟩
end
abbrev ulB:ByteArray:=⟨#[117,108]⟩
abbrev liB:ByteArray:=⟨#[108,105]⟩
def pAw:List Act:= [⟨0,0,0,0,ulB,⟨#[]⟩⟩,⟨0,0,0,0,liB,⟨#[]⟩⟩,⟨0,0,0,0,liB,⟨#[]⟩⟩]
def pX:Nat→RD
 | 0=>newX 20
 | k+1=>(addX (pX k) 2 (if k=0 then ulB else liB)).1
theorem DoS.el' {a:Act} {x y:RD} (h:DoS a x y)(q:(bY a).kind=0):y=(addX x 2 (bY a).name).1:=by
 cases h with
 | el=>rfl
 | tx q1=>omega
 | ins b q1=>omega
 | mov q1=>omega
 | rem b q1=>omega
 | set q1=>omega
 | no q1=>exact absurd q q1
theorem Zc(k:Nat)(hk:k<pAw.length)(x y:RD)(hx:x=pX k)(h:DoS pAw[k] x y):y=pX (k+1):=by
 subst hx
 match k,hk with
 | 0,_=>exact h.el' rfl
 | 1,_=>exact h.el' rfl
 | 2,_=>exact h.el' rfl
def pN(i:Int)(s:ByteArray):ND:=⟨i,2,s,⟨#[]⟩, [], [], [], -1, []⟩
def pX3:RD:=⟨20,4, [mQ,pN 1 ulB,pN 2 liB,pN 3 liB]⟩
theorem aM4:pX 3=pX3:=by decide+kernel
theorem pS1:eX [] [2,3]= [⟨2,3,0⟩,⟨2,2,0⟩]:=by decide+kernel
theorem pR1:(gS [] (bI [2,3]) (bI (gJ [] (bI [2,3]))) (bI [2,3]).length).1= [2,3]:=by decide+kernel
theorem pS2:∃i a,eX [2,3] [3,2]= [⟨3,i,a⟩]:=⟨_,_,(by decide+kernel:eX [2,3] [3,2]= [⟨3,3,0⟩])⟩
theorem aKn:aG (pX 3).l 1=pN 1 ulB∧aG (pX 3).l 2=pN 2 liB∧aG (pX 3).l 3=pN 3 liB∧cZ (pX 3).l 1=true∧cZ (pX 3).l 2=true∧cZ (pX 3).l 3=true∧cZ (pX 3).l 9=false:=by
 rw [aM4];exact⟨rfl,rfl,rfl,rfl,rfl,rfl,rfl⟩
theorem Yo {l:List ND} {rk:Int→Nat} (hd:Dec l rk) {i:Int} (h:(aG l i).kids= []):bJ l rk i= [i]:=by rw [fX hd,h];rfl
theorem Bp {l:List ND} {rk:Int→Nat} (hd:Dec l rk) {p i:Int} (h:(aG l i).kids= [])(hl:cZ l i=true)(h0:¬i=0)(hp:(aG l i).parent<0)(hne:¬i=p):iQ l (bJ l rk) p i=true:=by
 rw [wR];refine⟨hl,h0,hp,?_⟩;unfold iM;rw [Yo hd h];simp [hne]
theorem aKx {k m M l:Nat} {d:DS} {rk:Int→Nat} {σ:List (List D)} (h:LX k m M l d rk (pX 3) [] σ) {c:Int} {y:RD} {o:List TOp} (hk:Pv d rk (pX 3) [] 1 (eX (aG d.l 1).kids [2,3]) c y o):
  c=0∧KI (pX 3) y 1 [2,3]∧∃p1 p2,o= [p1,p2]:=by
 obtain⟨f1,f2,f3,l1,l2,l3,l9⟩:=aKn;have hf:=aE8 h.ix;have hl:=Un h.ix;have hD:=h.ix.iv.wt.Dec;rw [hf] at f1 f2 f3;rw [hl] at l1 l2 l3;have e1:(aG d.l 1).kids= []:=by rw [f1];rfl
 have hS:eX (aG d.l 1).kids [2,3]= [⟨2,3,0⟩,⟨2,2,0⟩]:=by rw [e1];exact pS1
 have hb:∀s∈eX (aG d.l 1).kids [2,3],¬qB d.l (bJ d.l rk) 1 s:=by
  rw [hS];intro s hs;simp only [List.mem_cons,List.not_mem_nil,or_false] at hs;rcases hs with rfl | rfl
  ·exact tV rfl (Bp hD (by rw [f3];rfl) l3 (by decide) (by rw [f3];decide) (by decide))
  exact tV rfl (Bp hD (by rw [f2];rfl) l2 (by decide) (by rw [f2];decide) (by decide))
 have hk2:(aG d.l 1).kind=2:=by rw [f1];rfl
 rcases hk with ⟨a, -⟩ | ⟨-,a, -⟩ | ⟨-, -,⟨⟨s,a1,a2⟩, -⟩ | ⟨-,rfl,a⟩⟩
 ·rw [l1] at a;cases a
 ·exact absurd hk2 a
 ·exact absurd a2 (hb s a1)
 obtain⟨r1,r2, -⟩:=Fm h.ix l1 hk2 hb a (pX 3);rw [e1,pR1] at r2;rw [hS] at r1;exact⟨rfl,r2,_,_,r1⟩
theorem aKd {k m M l:Nat} {d:DS} {rk:Int→Nat} {σ:List (List D)} {y:RD} {o:List TOp} (h:LX k m M l d rk y o σ)(ki:KI (pX 3) y 1 [2,3]) {c:Int} {z:RD} {o2:List TOp} (hk:Pv d rk y o 1 (eX (aG d.l 1).kids [3,2]) c z o2):
  c=0∧(∃q,o2=o++ [q]∧q.kind=4)∧cZ z.l 9=false:=by
 obtain⟨f1,f2,f3,l1,l2,l3,l9⟩:=aKn;have hf:=aE8 h.ix;have hl:=Un h.ix;have e1:(aG d.l 1).kids= [2,3]:=by rw [← hf,ki.kk 1,if_pos rfl]
 have hk2:(aG d.l 1).kind=2:=by rw [← hf];exact ki.kd
 have hl1:cZ d.l 1=true:=by rw [← hl,ki.il];exact l1
 obtain⟨i,a,hS⟩:=pS2;rw [← e1] at hS;have hb:∀s∈eX (aG d.l 1).kids [3,2],¬qB d.l (bJ d.l rk) 1 s:=by
  rw [hS];intro s hs;simp only [List.mem_cons,List.not_mem_nil,or_false] at hs;subst hs;exact Bj (by simp) (by simp)
 rcases hk with ⟨a, -⟩ | ⟨-,a, -⟩ | ⟨-, -,⟨⟨s,a1,a2⟩, -⟩ | ⟨-,rfl,a⟩⟩
 ·rw [hl1] at a;cases a
 ·exact absurd hk2 a
 ·exact absurd a2 (hb s a1)
 obtain⟨r1,r2, -⟩:=Fm h.ix hl1 hk2 hb a y;rw [hS] at r1;exact⟨rfl,⟨_,r1,rfl⟩,by rw [r2.il,ki.il];exact l9⟩
theorem aI1 {k m M l:Nat} {d:DS} {rk:Int→Nat} {σ:List (List D)} {y:RD} {o:List TOp} (h:LX k m M l d rk y o σ)(hk:k≤700)(h9:cZ y.l 9=false):∃σ',Ct prog 23 [.ref l 0,D.int 9,D.str ⟨#[112]⟩] σ (fun r τ=>r=D.int 11∧τ=σ'):=by
 obtain⟨d',rk',z,c,o',σ',hc, -, -,hh⟩:=aBg h (by omega) 9 ⟨#[112]⟩ (by decide);rw [Un h.ix] at h9;rcases hh with ⟨⟨a, -⟩, -⟩ | ⟨-,hs, -⟩
 ·rw [h9] at a;cases a
 rw [Gb (by rw [Un h.ix];exact h9)] at hs;cases hs;exact⟨σ',hc⟩
set_option maxRecDepth 20000
set_option maxHeartbeats 8000000
theorem mJ:List.range 2= [0,1]:=rfl
theorem mI:List.range 3= [0,1,2]:=rfl
theorem Zm(σ:List (List D)):Ct prog 13 [.sl false [nC ⟨0,0,0,0,ulB,⟨#[]⟩⟩,nC ⟨0,0,0,0,liB,⟨#[]⟩⟩,nC ⟨0,0,0,0,liB,⟨#[]⟩⟩]] σ (fun r σ'=>∃m M l d rk,r= .tup [.ref l 0,dS (pX 3)]∧LX 3 m M l d rk (pX 3) [] σ'):=by
 refine(Df pAw (fun k x=>x=pX k) rfl (fun k hk x y=>Zc k hk x y) σ (by decide) (fun a ha=>?_)).mono ?_
 ·simp only [pAw,List.mem_cons,List.not_mem_nil,or_false] at ha;rcases ha with rfl | rfl | rfl <;> decide
 rintro r σ' ⟨k,m,M,l,d,rk,x,k1,k2,k3,hr,hx,hg⟩;have e:pAw.length=3:=rfl;obtain rfl:k=3:=by omega
 subst hg;exact⟨m,M,l,d,rk,hr,hx⟩
theorem Li  (σ:List (List D))  :Ct prog 12 [] σ (fun r σ'=>r= .bool true):=by
 refine zf (rs:=[.tmp 0]) func12 ntmps12 results12 ?_;simp only [aN];refine aW fun _ _ Z=>?_;simp[mJ,mI];apply Z;refine aW fun _ _ Z=>?_;refine zs 4 fun _ Y=>?_;simp[mJ,mI];and_intros<;>(try omega);apply Y;refine aE fun _ Y=>?_;simp[mJ,mI];refine Vo (Zm _) ?_;rintro _ τ0 ⟨m,M,l,d,rk,hr9,hx⟩;subst hr9;have hg:=hx.at_;apply Y;simp[mJ,mI,hg];apply Z;apply aB;refine kX ⟨[],[],[],[],[]⟩ fun all hall _ Z=>?_;have ga2:aO all 2=some 15:=hall 2;refine zs 3 fun _ Y=>?_;simp[mJ,mI,ga2,hg];apply Y;refine aS 15 (by simp <;> rfl) ?_;refine⟨fun g1=>?_,fun g1=>?_⟩
 ·simp at g1
 try simp at g1
 simp[mJ,mI,ga2,hg];apply Z;refine zi ?_;refine⟨fun c2=>?_,fun c2=>?_⟩
 ·simp at c2
 try simp at c2
 apply aD;apply aA;refine zk [0,1] ?_;refine aW fun _ _ Z=>?_;refine zs 2 fun _ Y=>?_;simp[mJ,mI,hg];and_intros<;>(try omega);apply Y;refine aE fun _ Y=>?_;simp[mJ,mI,hg];refine Vo (Ge 3 m M l d rk (pX 3) [] 1 [2,3] _ hx (by omega) (by decide)) ?_;rintro _ τ1 ⟨cc1,k1,d1,rk1,y1,o1,hr9,hk1,hx1,hkr, -⟩;subst hr9;obtain⟨rfl,ki,p1,p2,rfl⟩:=aKx hx hkr;apply Y;simp[mJ,mI,hg];apply Z;refine aW fun _ _ Z=>?_;refine zs 2 fun _ Y=>?_;simp[mJ,mI,hg];and_intros<;>(try omega);apply Y;refine aE fun _ Y=>?_;simp[mJ,mI,hg];refine Vo (Ge k1 m M l d1 rk1 y1 [p1,p2] 1 [3,2] _ hx1 (by simp at hk1;omega) (by decide)) ?_;rintro _ τ2 ⟨cc2,k2,d2,rk2,y2,o2,hr9,hk2,hx2,hkr2, -⟩;subst hr9;obtain⟨rfl,⟨q,rfl,hq⟩,h9⟩:=aKd hx1 ki hkr2;have hg2:=hx2.at_;simp only [List.cons_append,List.nil_append] at hx2 hg2;apply Y;simp[mJ,mI,hg,hg2,hq];apply Z;refine zk [0,1,3,4] ?_;refine kX ⟨[],[],[],[],[]⟩ fun all hall _ Z=>?_;have ga2:aO all 2=some 30:=hall 2;have ga6:aO all 6=some 34:=hall 6;have ga12:aO all 12=some 40:=hall 12;have ga20:aO all 20=some 48:=hall 20;refine zs 3 fun _ Y=>?_;simp[mJ,mI,ga2,ga6,ga12,ga20,hg,hg2,hq];apply Y;refine aS 30 (by simp <;> rfl) ?_;refine⟨fun g3=>?_,fun g3=>?_⟩
 ·try simp at g3
  refine zs 4 fun _ Y=>?_;simp[mJ,mI,ga2,ga6,ga12,ga20,hg,hg2,hq];apply Y;refine aS 34 (by simp <;> rfl) ?_;refine⟨fun g4=>?_,fun g4=>?_⟩
  ·try simp at g4
   refine zs 1 fun _ Y=>?_;simp[mJ,mI,ga2,ga6,ga12,ga20,hg,hg2,hq];apply Y;refine zg ga6 fun _ Y=>?_;simp[mJ,mI,ga2,ga6,ga12,ga20,hg,hg2,hq];refine bX (Gy l m [p1,p2,q] _ (by simp) hg2) ?_;apply Y;refine zs 4 fun _ Y=>?_;simp[mJ,mI,ga2,ga6,ga12,ga20,hg,hg2,hq];and_intros<;>(try omega);apply Y;refine aS 40 (by simp <;> rfl) ?_;refine⟨fun g5=>?_,fun g5=>?_⟩
   ·try simp at g5
    refine zs 1 fun _ Y=>?_;simp[mJ,mI,ga2,ga6,ga12,ga20,hg,hg2,hq];apply Y;refine zg ga12 fun _ Y=>?_;simp[mJ,mI,ga2,ga6,ga12,ga20,hg,hg2,hq];refine bX (Gy l m [p1,p2,q] _ (by simp) hg2) ?_;apply Y;refine zs 6 fun _ Y=>?_;simp[mJ,mI,ga2,ga6,ga12,ga20,hg,hg2,hq];and_intros<;>(try omega);apply Y;refine aS 48 (by simp <;> rfl) ?_;refine⟨fun g6=>?_,fun g6=>?_⟩
    ·try simp at g6
     refine zs 1 fun _ Y=>?_;simp[mJ,mI,ga2,ga6,ga12,ga20,hg,hg2,hq];apply Y;refine zg ga20 fun _ Y=>?_;simp[mJ,mI,ga2,ga6,ga12,ga20,hg,hg2,hq];obtain⟨σ3,hc3⟩:=aI1 hx2 (by simp at hk1 hk2;omega) h9;refine bX (hc3) ?_;apply Y;simp[mJ,mI,ga2,ga6,ga12,ga20,hg,hg2,hq];apply Z;apply aC;simp [aK]
    simp at g6
   simp at g5
  simp at g4
 simp at g3
set_option maxRecDepth 20000
set_option maxHeartbeats 8000000
theorem Pd(acts:List Act)(parent:Int)(to:List Int)(σ:List (List D))(hl:acts.length≤9223372036854775807)(ha:∀a∈acts,a.name.size≤9223372036854775807∧a.value.size≤9223372036854775807)(hto:to.length≤9223372036854775807):Ct prog 4 [.sl false (acts.map nC),D.int parent,.sl false (to.map D.int)] σ (fun r σ'=>r= .bool true):=by
 refine zf (rs:=[.tmp 6]) func4 ntmps4 results4 ?_;simp only [aN];refine aW fun _ _ Z=>?_;simp;apply Z;apply aB;refine aW fun _ _ Z=>?_;refine aE fun _ Y=>?_;simp;refine Vo (Li _) ?_;rintro _ σ1 hr9;subst hr9;apply Y;simp;apply Z;refine zi ?_;refine⟨fun c1=>?_,fun c1=>?_⟩
 ·simp at c1
 try simp at c1
 apply aD;apply aA;refine aW fun _ _ Z=>?_;refine zs 1 fun _ Y=>?_;simp;apply Y;refine aE fun _ Y=>?_;simp;refine Vo (Df acts (fun _ _=>True) trivial (fun _ _ _ _ _ _=>trivial) _ hl ha) ?_;rintro _ τ ⟨k,m,M,l,d,rk,x,k1,k2,k3,hr9,hx,hgk⟩;subst hr9;have hg:=hx.at_;have hnbd:=hx.ix.iv.ip.NB (by omega);have hnbx:=hx.ix.xp.nb hnbd;have htr:=(hx.ix.iv.wt.Tr (by have:=hx.ix.iv.ip.len;rw [nT];omega)).perm hx.ix.xp.fd;apply Y;simp[hg];apply Z;apply aB;refine aW fun _ _ Z=>?_;simp[hg];apply Z;refine zi ?_;refine⟨fun c2=>?_,fun c2=>?_⟩
 ·simp at c2
 try simp at c2
 apply aD;apply aA;refine zk [1,2,6,7,8] ?_;refine aW fun _ _ Z=>?_;simp[hg];and_intros<;>(try omega);apply Z;rw [← List.map_take];obtain⟨w,hw⟩:∃w,to.take (min (to.length:Int) 12).toNat=w:=⟨_,rfl⟩;have hwl:w.length≤12:=by rw [← hw,List.length_take];omega
 rw [hw];refine aW fun _ _ Z=>?_;refine zs 3 fun _ Y=>?_;simp[hg];apply Y;refine aE fun _ Y=>?_;simp[hg];refine Vo (aAg x (bJ d.l rk) rk parent w _ hnbx htr (by omega)) ?_;rintro _ _ ⟨⟨o,co,hr9,hrk⟩,hs9⟩;subst hr9;subst hs9;apply Y;simp[hg];apply Z;refine zk [1,2,6,7,8,9,10] ?_;refine kX ⟨[],[],[],[],[]⟩ fun all hall _ Z=>?_;have ga6:aO all 6=some 38:=hall 6;refine zs 3 fun _ Y=>?_;simp[ga6,hg];apply Y;refine aE fun _ Y=>?_;simp[ga6,hg];refine Vo (Ge k m M l d rk x [] parent w _ hx (by omega) (by omega)) ?_;rintro _ τ2 ⟨cc,k4,d2,rk2,y,o2,hr9,hk2,hx2,hkr, -⟩;subst hr9;obtain⟨rfl,rfl,hrp⟩:=Rt hx.ix hkr hrk;apply Y;refine zs 3 fun _ Y=>?_;simp[ga6,hg];apply Y;refine aS 38 (by simp <;> rfl) ?_;refine⟨fun g3=>?_,fun g3=>?_⟩
 ·try simp at g3
  refine zs 3 fun _ Y=>?_;simp[ga6,hg];apply Y;refine zg ga6 fun _ Y=>?_;simp[ga6,hg];refine bX (aCr k4 m M l d2 rk2 x y o _ hx2 (by omega) hrp) ?_;apply Y;simp[ga6,hg];apply Z;apply aC;simp [aK]
 simp at g3
end Go.Proofs.YtbgfljpnhhdkoaaGreat
namespace Go.Vm
open Go Go.RowKit
def sC(w:World):Mem:=fun b o=>w.cell? ⟨b,o,none⟩
def CellsAt(w:World)(ds:List D)(cs:List Value):Prop:=
 ds.length=cs.length∧∀(i:Nat) (c:D) (y:Value),ds[i]?=some c→cs[i]?=some y→R (sC w) [] c y∧y.oneCell'=true∧c.flat=true
def OpenAt(w:World)(d:D)(cs:List Value):Prop:=CellsAt w d.cells cs∧d≠ .any
def Opens(P:Program)(t:TypeId) {α:Type} (f:α→D)(p:α→Prop):Prop:=
 ∀(H:Type) (enc:TypeId×Value→H) (w:World) (spare:Nat→Bool) (held:Bool) (fuel:Nat) (cs:List Value) (x:DataW H×List MemPlace),DataW.trod enc P w 0 spare held fuel t cs=some x→∃a,p a∧OpenAt w (f a) cs
theorem OpenAt.one {w:World} {d:D} {y:Value} (hd:d.cells= [d])(hr:R (sC w) [] d y)(h1:y.oneCell'=true)(hf:d.flat=true)(ha:d≠ .any):OpenAt w d [y]:=by
 refine⟨⟨by rw [hd];rfl,fun i c z h2 h3=>?_⟩,ha⟩;rw [hd] at h2
 match i with
 | 0=>simp at h2 h3;subst h2;subst h3;exact⟨hr,h1,hf⟩
 | i+1=>simp at h2
section
variable {P:Program} {t:TypeId}
theorem Sq(ht:P.underlying t=some (.int .i64)):Opens P t D.int (fun n=> -9223372036854775808≤n∧n≤9223372036854775807):=by
 intro H enc w spare held fuel cs x h;obtain⟨n,rfl,_,hw⟩:=DataW.trod_int ht h;refine⟨n,?_,.one rfl (.v _ rfl) rfl rfl (by simp)⟩;have h1:IntKind.i64.min= -9223372036854775808:=rfl;have h2:IntKind.i64.max=9223372036854775807:=rfl;simp only [Lit.wf,Bool.and_eq_true,decide_eq_true_eq] at hw;omega
theorem Sg(ht:P.underlying t=some .string):Opens P t D.str (fun s=>s.size≤maxLen):=by
 intro H enc w spare held fuel cs x h;obtain⟨s,rfl,_,hw⟩:=DataW.trod_string ht h;exact⟨s,hw,.one rfl (.v _ rfl) rfl rfl (by simp)⟩
theorem OpenAt.value {w:World} {d:D} {cs:List Value} (h:OpenAt w d cs):∃x:Value,x.cells.toList=cs∧R (sC w) [] d x:=by
 have gen:d.cells= [d]→∃x:Value,x.cells.toList=cs∧R (sC w) [] d x:=by
  intro hd;have hl:=h.1.1;rw [hd] at hl;obtain⟨y,rfl⟩:=List.length_eq_one_iff.1 hl.symm;have:=h.1.2 0 d y (by rw [hd];rfl) rfl;exact⟨y,by rw [Value.cells_one this.2.1],this.1⟩
 cases d with
 | agg ds=>
  refine⟨.agg cs.toArray,by simp [Value.cells],.agg ds cs.toArray (by have:=h.1.1;simp [D.cells] at this;simp [this]) (fun i e y a1 a2=>(h.1.2 i e y a1 (by simpa using a2)).1) (fun i y a2=>?_)⟩;have a2':cs[i]?=some y:=by simpa using a2
  have hi:=(List.getElem?_eq_some_iff.1 a2').1;have hl:=h.1.1;have hi2:i<(D.cells (.agg ds)).length:=by omega
  exact(h.1.2 i _ y (List.getElem?_eq_getElem hi2) a2').2.1
 | _=>exact gen rfl
theorem xV {α:Type} {n:Nat} {Q:Nat→α→Prop} (h:∀i,i<n→∃a,Q i a):∃l:List α,l.length=n∧∀i a,l[i]?=some a→Q i a:=by
 induction n with
 | zero=>exact⟨[],rfl,by simp⟩
 | succ n ih =>
  obtain⟨l,hl,hq⟩:=ih (fun i hi=>h i (by omega));obtain⟨a,ha⟩:=h n (by omega);refine⟨l++ [a],by simp [hl],fun i b hb=>?_⟩;by_cases hi:i<l.length
  ·rw [List.getElem?_append_left hi] at hb;exact hq i b hb
  rw [List.getElem?_append_right (by omega)] at hb;have h0:i - l.length=0:=by
   have:=(List.getElem?_eq_some_iff.1 hb).1;simp at this;omega
  rw [h0] at hb;simp at hb;subst hb;rw [show i=n by omega];exact ha
theorem My {d:D} :d.ncells=d.cells.length:=by cases d <;> rfl
theorem xA {e:TypeId} {α:Type} {f:α→D} {p:α→Prop} (ht:P.underlying t=some (.slice e))(h:Opens P e f p)(hk:0<P.cellsOf e):Opens P t (fun l:List α=> .sl false (l.map f)) (fun l=>l.length≤maxLen∧∀a∈l,p a):=by
 intro H enc w spare held fuel cs x hx;rcases DataW.trod_slice ht hx with ⟨rfl,_⟩ | ⟨a,len,cap,elems,rest,n,_,rfl,_,_,hlc,hcm,hlen,hel,_,_⟩
 ·exact⟨[],⟨by simp,by simp⟩,.one rfl (.nil false) rfl rfl (by simp)⟩
 by_cases h0:len=0
 ·subst h0;exact⟨[],⟨by simp,by simp⟩,.one rfl (.emp false a cap hcm) rfl rfl (by simp)⟩
 have each:∀i,i<len→∃b:α×List Value,p b.1∧OpenAt w (f b.1) b.2∧w.cells? 0 (a.add (i * P.cellsOf e)) (P.cellsOf e)=some b.2:=by
  intro i hi;have hi':i<elems.length:=by omega
  have:=hel i hi;rw [List.getElem?_eq_getElem hi',Option.bind_eq_some_iff] at this;obtain⟨ds,h1,h2⟩:=this;obtain⟨b,hb,ho⟩:=h H enc w spare held n ds _ h2;exact⟨(b,ds),hb,ho,h1⟩
 obtain⟨L,hL,hq⟩:=xV each;have each2:∀i,i<len→∃v:Value,∃b,L[i]?=some b∧v.cells.toList=b.2∧R (sC w) [] (f b.1) v:=by
  intro i hi;have hi':i<L.length:=by omega
  have hb:L[i]?=some L[i]:=List.getElem?_eq_getElem hi';obtain⟨v,h1,h2⟩:=(hq i _ hb).2.1.value;exact⟨v,_,hb,h1,h2⟩
 obtain⟨V,hV,hv⟩:=xV each2;have hspot:a.spot=none:=by
  have hi':0<L.length:=by omega
  have h1:=(hq 0 _ (List.getElem?_eq_getElem hi')).2.2;obtain⟨_,hl,hc⟩:=World.cells?_some h1;have h2:=hc 0 hk;rw [List.getElem?_eq_getElem (by omega)] at h2;simpa [Addr.add] using World.cell?_spot h2
 obtain⟨b,off,spot⟩:=a;simp only at hspot;subst hspot;refine⟨L.map (·.1),⟨by rw [List.length_map,hL];exact Nat.le_trans hlc hcm,fun y hy=>?_⟩,.one rfl ?_ rfl rfl (by simp)⟩
 ·obtain⟨z,hz,rfl⟩:=List.mem_map.1 hy;obtain⟨i,hi⟩:=List.getElem?_of_mem hz;exact(hq i z hi).1
 refine .sl false _ b off len cap (P.cellsOf e) V (by simp [hV,hL]) (by simp [hL]) hk hlc hcm (fun i d x h1 h2=>?_) (fun i d h1=>?_) (fun i x h1=>?_)
 ·obtain⟨z,hz,h3,h4⟩:=hv i x h2;simp only [List.getElem?_map,hz,Option.map_some,Option.some.injEq] at h1;subst h1;exact h4
 ·simp only [List.getElem?_map,Option.map_map,Option.map_eq_some_iff] at h1;obtain⟨z,hz,rfl⟩:=h1;obtain⟨_,h5,h6⟩:=hq i z hz;show(f z.1).ncells=_
  rw [My,h5.1.1];exact(World.cells?_some h6).2.1
 obtain⟨z,hz,h3,h4⟩:=hv i x h1;obtain⟨_,h5,h6⟩:=hq i z hz;obtain⟨_,h7,h8⟩:=World.cells?_some h6;have hsz:x.cells.size=P.cellsOf e:=by rw [← h7,← h3,Array.length_toList]
 refine⟨hsz,fun j c hj=>?_⟩;have hjl:j<P.cellsOf e:=by rw [← hsz];exact(Array.getElem?_eq_some_iff.1 hj).1
 have hj2:z.2[j]?=some c:=by rw [← h3];simpa using hj
 have hj3:j<(f z.1).cells.length:=by rw [h5.1.1];omega
 refine⟨(h5.1.2 j _ c (List.getElem?_eq_getElem hj3) hj2).2.1,?_⟩;have:=h8 j hjl;rw [Addr.add_none,Addr.add_none,hj2] at this;show w.cell? _=_
 rw [show off+(i * P.cellsOf e+j)=off+i * P.cellsOf e+j by omega];exact this
theorem CellsAt.append {w:World} {a b:List D} {x y:List Value} (h1:CellsAt w a x)(h2:CellsAt w b y):CellsAt w (a++b) (x++y):=by
 refine⟨by simp [h1.1,h2.1],fun i c v e1 e2=>?_⟩;by_cases hi:i<a.length
 ·rw [List.getElem?_append_left hi] at e1;rw [List.getElem?_append_left (by have:=h1.1;omega)] at e2;exact h1.2 i c v e1 e2
 rw [List.getElem?_append_right (by omega)] at e1;rw [List.getElem?_append_right (by have:=h1.1;omega)] at e2;rw [← h1.1] at e2;exact h2.2 _ c v e1 e2
def Ey(P:Program)(fs:List Field)(k n:Nat) {α:Type} (f:α→List D)(p:α→Prop):Prop:=
 ∀(H:Type) (enc:TypeId×Value→H) (w:World) (spare:Nat→Bool) (held:Bool) (fuel:Nat) (cs:List Value),cs.length=n→
  (∀fl∈fs,∃x:DataW H×List MemPlace,DataW.trod enc P w 0 spare held fuel fl.type ((cs.drop fl.offset).take (P.cellsOf fl.type))=some x)→∃a,p a∧CellsAt w (f a) (cs.drop k)
theorem Nb {n:Nat} :Ey P [] n n (fun _:Unit=> []) (fun _=>True):=by
 intro H enc w spare held fuel cs hn _;refine⟨(),trivial,?_,fun i c y h=>by simp at h⟩;rw [List.drop_eq_nil_of_le (by omega)];rfl
theorem jZ {fl:Field} {fs:List Field} {k n m:Nat} {α β:Type} {f:α→D} {p:α→Prop} {g:β→List D} {q:β→Prop} (ho:fl.offset=k)(hc:P.cellsOf fl.type=m)(h1:Opens P fl.type f p)(h2:Ey P fs (k+m) n g q):
  Ey P (fl::fs) k n (fun ab:α×β=>(f ab.1).cells++g ab.2) (fun ab=>p ab.1∧q ab.2):=by
 intro H enc w spare held fuel cs hn hall;obtain⟨x,hx⟩:=hall fl (by simp);obtain⟨a,ha,hoa⟩:=h1 H enc w spare held fuel _ x hx;obtain⟨b,hb,hob⟩:=h2 H enc w spare held fuel cs hn (fun fl' h'=>hall fl' (by simp [h']));refine⟨(a,b),⟨ha,hb⟩,?_⟩;have e:cs.drop k=(cs.drop k).take m++cs.drop (k+m):=by
  rw [← List.drop_drop];exact(List.take_append_drop m _).symm
 rw [e];rw [ho,hc] at hoa;exact hoa.1.append hob
theorem Fg {fs:Array Field} {α:Type} {f:α→List D} {p:α→Prop} (ht:P.underlying t=some (.struct fs))(h:Ey P fs.toList 0 (P.cellsOf t) f p):Opens P t (fun a=> .agg (f a)) p:=by
 intro H enc w spare held fuel cs x hx;obtain⟨xs,n,_,_,hl,hxl,hall⟩:=DataW.trod_struct ht hx;obtain⟨a,ha,hc⟩:=h H enc w spare held n cs hl (fun fl hfl=>by
  obtain⟨i,hi⟩:=List.getElem?_of_mem hfl;rw [Array.getElem?_toList] at hi;have h1:=hall i fl hi;have hi2:i<xs.length:=by rw [hxl];exact(Array.getElem?_eq_some_iff.1 hi).1
  rw [List.getElem?_eq_getElem hi2] at h1;exact⟨_,h1⟩)
 rw [List.drop_zero] at hc;exact⟨a,ha,hc,by simp⟩
theorem Opens.map {α β:Type} {f:α→D} {p:α→Prop} {g:β→D} {q:β→Prop} (h:Opens P t f p)(φ:α→β)(hφ:∀a,f a=g (φ a))(hq:∀a,p a→q (φ a)):Opens P t g q:=by
 intro H enc w spare held fuel cs x hx;obtain⟨a,ha,ho⟩:=h H enc w spare held fuel cs x hx;exact⟨φ a,hq a ha,by rw [← hφ];exact ho⟩
theorem Bw {H:Type} {enc:TypeId×Value→H} {α:Type} {f:α→D} {p:α→Prop} {w:World} {spare:Nat→Bool} {held:Bool} {v:Value} {d:DataW H} {ps:List MemPlace} (h:Opens P t f p)(hf:∀a,(f a).cells= [f a])(hv:v.oneCell'=true)(ht:DataW.Trod enc P w 0 spare held t v d ps):
  ∃a,p a∧R (sC w) [] (f a) v∧∀X h q,Own w (sC w) [] X h q (f a) v:=by
 obtain⟨fuel,hx⟩:=ht;obtain⟨a,ha,ho⟩:=h H enc w spare held fuel _ _ hx;rw [Value.cells_one hv] at ho;have:=ho.1.2 0 (f a) v (by rw [hf];rfl) rfl;exact⟨a,ha,this.1,fun X h q=> .flat q _ _ this.2.2⟩
theorem aI3 {N:FuncId} {ds:List D} {vs:Array Value} {W:World} (hct:Ct P N ds [] (fun r _=>r= .bool true))(hl:vs.size=ds.length)
  (ha:∀(i:Nat) (d:D) (v:Value),ds[i]?=some d→vs[i]?=some v→R (sC W) [] d v∧∀X h q,Own W (sC W) [] X h q d v):
  Calls P N vs W fun e W'=>e= .returned (.bool true)∧Below W.heap.size W W':=by
 refine(hct.2 W ⟨sC W,fun _=>none, [], []⟩ vs hl rfl ⟨fun b o c h=>h,fun b t h=>by simp at h,fun t=>?_,rfl,fun n b cs h=>by simp at h,rfl,fun n b cs h=>by simp at h⟩).mono ?_
 ·show SlotOk W _ t (eC ds t) (bM vs t)
  cases hd:ds[t]? with
  | none=>
   simp only [eC,hd];exact⟨.any _,.flat _ _ _ rfl⟩
  | some d=>
   have hlt:t<vs.size:=by rw [hl];exact(List.getElem?_eq_some_iff.1 hd).1
   have hv:vs[t]?=some vs[t]:=Array.getElem?_eq_getElem hlt;have hvv:bM vs t=vs[t]:=by simp [bM,hlt]
   rw [pJ hd,hvv];obtain⟨h1,h2⟩:=ha t d _ hd hv;exact⟨h1,h2 _ _ _⟩
 rintro e W' ⟨r,σ',x,g',rfl,rfl,_,hf,hok⟩;have hs:=hok.slot 0;have hs':R g'.M g'.bs (.bool true) x:=hs.1;exact⟨by rw [hs'.vEq],hf.os,hf.tape,hf.output,hf.size,fun k hk=>(hf.keep k hk rfl).1⟩
end
end Go.Vm
