import Derived.Test.YtbgfljpnhhdkoaaGreatTeCl
import Derived.Test.YtbgfljpnhhdkoaaGreatWkTf2
import Derived.Test.YtbgfljpnhhdkoaaGreatTeSw
import Derived.Test.YtbgfljpnhhdkoaaGreatTeRd
import Derived.Test.YtbgfljpnhhdkoaaGreatLisBs
set_option maxHeartbeats 8000000
set_option linter.all false
set_option maxRecDepth 20000
open Go.Proofs.Tryz
namespace Go.Proofs.YtbgfljpnhhdkoaaGreat
open Go Go.Vm
variable {F:Nat->Prop}{hi lo q x:Nat}{par:D}{v:VN}{σ:List (List D)}
def k7(z:Int):Int:=IntKind.i64.wrap (((z % 2 ^ IntKind.i64.bits).toNat &&& ((7:Int) % 2 ^ IntKind.i64.bits).toNat:Nat):Int)
abbrev aKn:D:= .v (.pointer none)
section
variable {m M l:Nat}{d:DS}{rk:Int->Nat}
end
def Lb(σ:List (List D))(x:Nat):Int:=match ((σ[x]?:Option (List D)).bind fun cs=>(cs[0]?:Option D))with
 | some (D.v (Value.int _ k))=>k
 | _=>0
theorem Iu {i:Int} {qs:List Nat} (h:σ[x]?=some (jG i v par qs)):Lb σ x=i:=by unfold Lb;rw [h];rfl
theorem Wx {f:Nat->Int} :∀(os:List Nat) (i:Int),(∀(a:Nat) (h:a<os.length),f os[a]=i+(a:Int))->∀id,i<=id->os.find? (fun x=>decide (f x=id))=os[(id - i).toNat]?
 | [],i,_,id,_=>by simp
 | x :: os, i, h, id, hid => by
  have h0:f x=i:=by have:=h 0 (by simp);simpa using this
  by_cases e:i=id
  .subst e;rw [List.find?_cons_of_pos (by simp [h0])];simp
  rw [List.find?_cons_of_neg (by simp [h0,e]),Wx os (i+1) (fun a ha=>by
   have:=h (a+1) (by simpa using ha);rw [zM] at this;rw [this];omega) id (by omega),show(id - i).toNat=(id - (i+1)).toNat+1 by omega,List.getElem?_cons_succ]
structure AllOk(σ:List (List D))(q n lo hi:Nat)(os:List Nat):Prop where
 iq:IQ σ q os
 len:os.length=n
 nd:os.Nodup
 num:∀(a:Nat) (h:a<os.length),Lb σ os[a]=1+(a:Int)
 itm:∀x∈os,(lo<=x/\x<hi)/\∃(j:Int) (w:VN) (p:D) (rs:List Nat),σ[x]?=some (jG j w p rs)
theorem ItOk.all2 (it:ItOk σ F 1 v par q)(hc:cB v<=9999)(hF:∀p,F p->lo<=p/\p<hi):∃t,AllOk σ q (cB v) lo hi (q::t)/\Sq σ (1+1) t:=by
 obtain⟨t,t1,t2,t3,t4, -⟩:=it.ord hc;obtain⟨rs,hq, -⟩:=it.at_;have h0:=it.F_;refine⟨t,⟨t1,by simpa using t2,?_,fun a ha=>?_,fun x hx=>?_⟩,t3⟩
 .rw [gY];exact⟨fun hm=>by have:=(t4 _ hm).2;omega,t3.nodup⟩
 .cases a with
  | zero=>rw [yH,Iu hq];rfl
  | succ a=>
   obtain⟨w,p,r9,hx⟩:=t3.at_ a (by simpa using ha);rw [zM,Iu hx];omega
 rcases bM.1 hx with rfl | hx
 .exact⟨hF _ h0,_,_,_,_,hq⟩
 obtain⟨j,w,p,r9, -,hx1⟩:=t3.has x hx;exact⟨hF _ (t4 x hx).1,_,_,_,_,hx1⟩
theorem ItOk.all (it:ItOk σ F 1 v par q)(hc:cB v<=9999)(hF:∀p,F p->lo<=p/\p<hi):∃os,AllOk σ q (cB v) lo hi os:=by
 obtain⟨t,h, -⟩:=it.all2 hc hF;exact⟨_,h⟩
section
variable {τ:List (List D)}{n:Nat}{os:List Nat}
theorem AllOk.frame(h:AllOk σ q n lo hi os)(hf:∀p,lo<=p->p<hi->τ[p]?=σ[p]?):AllOk τ q n lo hi os:=by
 have hm:∀x∈os,τ[x]?=σ[x]?:=fun x hx=>hf x (h.itm x hx).1.1 (h.itm x hx).1.2;refine⟨h.iq.frame fun x hx cs hcs=>⟨cs,(hm x hx).trans hcs,rfl⟩,h.len,h.nd,fun a ha=>?_,fun x hx=>?_⟩
 .rw [<- h.num a ha];unfold Lb;rw [hm _ (bS ha)]
 obtain⟨h1,j,w,p,rs,h2⟩:=h.itm x hx;exact⟨h1,j,w,p,rs,(hm x hx).trans h2⟩
def Sr(os:List Nat)(a:Nat):D:=match os[a]? with
 | some x=> .ref x 0
 | none=> .v (.pointer none)
theorem AllOk.find(h:AllOk σ q n lo hi os)(id:Int)(h1:1<=id):Ct prog 47 [.ref q 0,D.int id] σ (fun r τ=>r=Sr os (id - 1).toNat/\τ=σ):=
 (aC7 id h.iq (Lb σ) fun x hx=>by
  obtain⟨-,j,w,p,rs,h2⟩:=h.itm x hx;exact⟨_,h2,by rw [Iu h2];rfl⟩).mono fun r τ hr=>⟨by
   rw [hr.1];unfold aGo Sr;rw [Wx os 1 h.num id h1];cases os[(id - 1).toNat]? <;> rfl,hr.2⟩
theorem AllOk.order(h:AllOk σ q n lo hi os)(hn:n<=9999):Ct prog 46 [.ref q 0] σ (fun r τ=>r= .sl true (os.map fun q=>D.ref q 0)/\τ=σ):=aMb h.iq (by have:=h.len;omega)
theorem AllOk.rest(h:AllOk σ q n lo hi os)(hn:n<=9999):Ct prog 39 [.ref q 0] σ (fun r τ=>r=D.int 0/\τ=σ):=
 (Vx q os (fun _=>0) (fun _=>0) σ h.iq (by have:=h.len;omega) fun x hx=>by
  obtain⟨-,j,w,p,rs,h2⟩:=h.itm x hx;exact⟨_,h2,rfl,rfl⟩).mono fun r τ hr=>⟨by
   have:os.countP (fun x=> !(decide ((0:Int)=0) && decide ((0:Int)=0)))=0:=by rw [List.countP_eq_zero];intro x _;decide
   rw [hr.1,this];rfl,hr.2⟩
theorem AllOk.calm(h:AllOk σ q n lo hi os)(hn:n<=9999):Ct prog 40 [.ref q 0] σ (fun r τ=>r=D.int 0/\τ=σ):=
 (aEw q os (fun _=>0) σ h.iq (by have:=h.len;omega) fun x hx=>by
  obtain⟨-,j,w,p,rs,h2⟩:=h.itm x hx;exact⟨_,0,0,0,h2,rfl,rfl,rfl,rfl⟩).mono fun r τ hr=>⟨by
   have:os.countP (fun x=>ghK 0)=0:=by rw [List.countP_eq_zero];intro x _;decide
   rw [hr.1,this];rfl,hr.2⟩
theorem Xq:∀(A B:List (List Nat)),A.length=B.length->(∀(j:Nat) (h1:j<A.length) (h2:j<B.length),A[j].Sublist B[j])->A.flatten.Sublist B.flatten
 | [], [],_,_=>yC _
 | [],b::B,h,_=>by simp at h
 | a::A, [],h,_=>by simp at h
 | a::A,b::B,h,hs=>by
  rw [nU,nU];exact(hs 0 (by simp) (by simp)).append (Xq A B (by simpa using h) fun j h1 h2=>hs (j+1) (by simpa using h1) (by simpa using h2))
theorem IQ.cut (h:IQ σ q os)(hx:∃cs,τ[x]?=some cs/\cs[26]?=some (.sl true [])):(∀y∈os,y≠x->τ[y]?=σ[y]?)->∃os2,IQ τ q os2/\os2.Sublist os/\(x∈os->x∈os2):=by
 induction h with
 | mk q cs qs oss hq h26 hlen hl hk ih =>
  intro hf;by_cases e:q=x
  .subst e;obtain⟨cs2,c1,c2⟩:=hx;exact⟨[q],.mk q cs2 [] [] c1 c2 (by decide) rfl fun j h1 _=>absurd h1 (by simp),by simp,fun _=>dH⟩
  obtain⟨l,l1,l2⟩:=xT (P:=fun j o=>∀(h1:j<qs.length) (h2:j<oss.length),IQ τ qs[j] o/\o.Sublist oss[j]/\(x∈oss[j]->x∈o)) qs.length fun j hj=>by
   obtain⟨o,o1,o2,o3⟩:=ih j hj (by omega) fun y hy=>hf y (eV _ (oO.2 ⟨_,bS _,hy⟩));exact⟨o,fun _ _=>⟨o1,o2,o3⟩⟩
  refine⟨q::l.flatten,.mk q cs qs l ((hf q dH e).trans hq) h26 hlen l1 (fun j h1 h2=>(l2 j h2 h1 (by omega)).1),List.Sublist.cons_cons _ (Xq l oss (by omega) fun j h1 h2=>(l2 j h1 (by omega) h2).2.1),fun hm=>?_⟩;rcases bM.1 hm with rfl | hm
  .exact absurd rfl e
  obtain⟨o,ho,hxo⟩:=oO.1 hm;obtain⟨j,hj,rfl⟩:=iN ho;exact eV _ (oO.2 ⟨_,bS (by omega:j<l.length),(l2 j (by omega) (by omega) hj).2.2 hxo⟩)
theorem AllOk.one(h:AllOk σ q n lo hi os)(hn:n<=9999) (hx:x∈os) {j:Int} {w:VN} {p:D} {kd:Int} (hk:¬kd=0):Ct prog 39 [.ref q 0] (σ.set x (itS j w ⟨kd,0,0,0⟩ p [])) (fun r τ=>r=D.int 1/\τ=σ.set x (itS j w ⟨kd,0,0,0⟩ p [])):=by
 obtain⟨-,j0,w0,p0,rs0,h0⟩:=h.itm x hx;have hg:=aM h0 (itS j w ⟨kd,0,0,0⟩ p []);obtain⟨o2,i1,i2,i3⟩:=h.iq.cut (τ:=σ.set x (itS j w ⟨kd,0,0,0⟩ p [])) (x:=x) ⟨_,hg,rfl⟩ fun y _ hy=>eR (fun e=>hy e.symm);have hmem:=i3 hx;have hl:=i2.length_le;have h15:∀y∈o2,∃cs,(σ.set x (itS j w ⟨kd,0,0,0⟩ p []))[y]?=some cs/\cs[15]?=some (D.int (if y=x then kd else 0))/\cs[16]?=some (D.int 0):=fun y hy=>by
  by_cases e:y=x
  .subst e;exact⟨_,hg,by rw [aK rfl];rfl,rfl⟩
  obtain⟨-,j1,w1,p1,rs1,h1⟩:=h.itm y (i2.subset hy);exact⟨_,(eR (fun e2=>e e2.symm)).trans h1,by rw [aD e];rfl,rfl⟩
 refine(Vx q o2 (fun y=>if y=x then kd else 0) (fun _=>0) _ i1 (by have:=h.len;omega) h15).mono fun r τ hr=>⟨?_,hr.2⟩;have hc:=aAx (os:=o2) (n:=1) (qf:=fun _=>x) (f:=fun y=> !(decide ((if y=x then kd else 0)=0) && decide ((0:Int)=0))) (h.nd.sublist i2) (fun a b ha hb _=>by omega) (fun _ _=>hmem) fun y hy hf=>⟨0,by decide,by
  by_cases e:y=x
  .exact e
  simp [e] at hf⟩
 rw [hr.1,hc];simp [hk]
variable {m M l:Nat} {d:DS} {rk:Int->Nat}
end
def tO(t:TN):List Int:=t.ID::(t.kids.attach.map fun k=>tO k.1).flatten
termination_by SizeOf.sizeOf t
decreasing_by
 have h:=mI k.2;cases t;simp at h |-;omega
theorem Ee(t:TN):tO t=t.ID::(t.kids.map tO).flatten:=by rw [tO];simp
def Il(t:TN)(j:Nat):List Int:=t.ID::((t.kids.take j).map tO).flatten
theorem aTu(t:TN):Il t 0= [t.ID]:=rfl
theorem Ps(t:TN)(j:Nat)(h:j<t.kids.length):Il t (j+1)=Il t j++tO t.kids[j]:=by
 unfold Il;rw [bL t.kids j h,cE,zX];simp
theorem aMs(t:TN):Il t t.kids.length=tO t:=by unfold Il;rw [dY,Ee]
theorem Cb:∀(t:TN),(tO t).length=rV t
 | t=>by
  rw [Ee,Ja,bJ,List.length_flatten,eA,sK];congr 2;exact cW fun k hk=>Cb k
termination_by t=>rV t
decreasing_by
 have:=uL hk;omega
theorem aPc(t:TN)(j:Nat):(Il t j).length<=rV t:=by
 rw [<- Cb t,Ee];unfold Il;rw [bJ,bJ];have:((t.kids.take j).map tO).flatten.length<=((t.kids.map tO).flatten).length:=by
  conv=>rhs;rw [<- eZ j t.kids]
  rw [cE,zX,aZ];omega
 omega
theorem aQn(t:TN)(j:Nat)(h:j<t.kids.length):(Il t j).length+rV t.kids[j]<=rV t:=by
 have h1:=aPc t (j+1);rw [Ps t j h,aZ,Cb] at h1;exact h1
abbrev aXp(O:Nat)(t:TN):Prop:=∀(l:List Int) (σ:List (List D)),σ[O]?=some [.sl true (l.map D.int)]->l.length+rV t<=9999->Ct prog 129 [rE t,.clo (.func 130) [] [.ref O 0]] σ (fun r σ'=>r=D.bool true/\σ'=σ.set O [.sl true ((l++tO t).map D.int)])
theorem aJq(t:TN)(O:Nat)(l:List Int)(σ:List (List D))(hO:σ[O]?=some [.sl true (l.map D.int)])(hl:l.length<=9999):Ct prog 130 [rE t,.ref O 0] σ (fun r σ'=>r= .bool true/\σ'=σ.set O [.sl true ((l++ [t.ID]).map D.int)]):=by
 refine zf func130 ?_;refine zr ⟨[4],[],[],[],[]⟩ fun _ _ Z=>?_;simp[hO,aM hO];apply Z;refine zr ⟨[4],[],[],[],[]⟩ fun _ _ Z=>?_;simp[hO,aM hO];and_intros<;>(try omega);apply Z;refine zr ⟨[4],[],[],[],[]⟩ fun _ _ Z=>?_;simp[hO,aM hO];apply Z;apply aC;simp [aH]
theorem aK3(t:TN)(O:Nat)(l:List Int)(σ:List (List D))(hO:σ[O]?=some [.sl true (l.map D.int)])(hl:l.length+rV t<=9999)(ih:∀k∈t.kids,aXp O k):Ct prog 129 [rE t,.clo (.func 130) [] [.ref O 0]] σ (fun r σ'=>r= .bool true/\σ'=σ.set O [.sl true ((l++tO t).map D.int)]):=by
 refine zf func129 ?_;have hcl:=aIm t;refine bB fun _ _ Z=>?_;simp;apply Z;apply aE;refine bB fun _ _ Z=>?_;refine zs 2 fun _ Y=>?_;simp;apply Y;refine aF fun _ Y=>?_;simp;refine cT (aJq t O l _ hO (by omega)) ?_;apply Y;simp;apply Z;refine zI ?_ ?_<;>intro c1<;>try simp at c1
 apply zA;apply aE;refine bB fun _ _ Z=>?_;simp;and_intros<;>(try omega);apply Z;apply aR;refine zk [1,4,12,13,14] ?_;refine nW (fun(j:Nat)=> [(14,.d (.v (.int .i64 (j:Int)))),(6,.d (.any))]) (fun(j:Nat)=> [[D.int t.ID,D.int t.kind,D.str t.tag,D.str t.text,.sl false (t.classes.map D.str),.sl false (t.attrs.map dA),.sl false (t.styles.map cQ),.sl false (t.kids.map Lu)]]) (fun(j:Nat)=>σ.set O [.sl true ((l++Il t j).map D.int)]) [4,6,14,15,16,17,18,19,20,21,22] (fun(j:Nat)=>j<=t.kids.length) (fun(j:Nat)=>t.kids.length - j) (0) (by simp <;> rfl) ?_ (by simp) (by simp [aTu]) ?_ ?_
 .simp
 .simp
 rintro j hj;simp only [aQ,aO];refine bB fun _ _ Z=>?_;simp;apply Z;apply aE;refine zI ?_ ?_<;>intro c2<;>try simp at c2
 .have hrg:t.kids[j]?=some t.kids[j]:=aS c2;apply jM;refine bB fun _ _ Z=>?_;simp[hrg];and_intros<;>(try omega);apply Z;refine bB fun _ _ Z=>?_;refine zs 2 fun _ Y=>?_;simp[hrg];apply Y;refine aF fun _ Y=>?_;simp[hrg];have hO2:=aM hO [.sl true ((l++Il t j).map D.int)];rw [cE] at hO2;have hlt:=aQn t j (by omega);refine cT (ih t.kids[j] (bS _) (l++Il t j) _ (by rw [cE];exact hO2) (by rw [aZ];omega)) ?_;apply Y;simp[hrg];apply Z;refine zI ?_ ?_<;>intro c3<;>try simp at c3
  apply mS;refine zk [1,6,12,13,14] ?_;refine pF fun _ _ Z=>?_;simp[hrg];and_intros<;>(try omega);apply Z;refine fB (j+1) ?_ ?_ (dW rfl ?_ (by simp) (by rw [Ps t j (by omega)];simp))
  .omega
  .try dsimp only
   omega
  simp[hrg]
 obtain rfl:j=t.kids.length:=by omega
 rw [aMs];apply zE;refine bB fun _ _ Z=>?_;simp;apply Z;apply aC;simp [aH]
theorem aCv(O:Nat)(t:TN):aXp O t:=fun l σ hO hl=>aK3 t O l σ hO hl fun k hk=>aCv O k
termination_by rV t
decreasing_by
 have:=uL hk;omega
theorem aJt(t:TN)(σ:List (List D))(hc:rV t<=9999):Ct prog 57 [rE t] σ (fun r σ'=>r= .sl false ((tO t).map D.int)/\∃J,σ'=σ++J):=by
 refine zf func57 ?_;refine zr ⟨[],[],[3],[],[]⟩ fun _ _ Z=>?_;simp[aI,aG];apply Z;refine zr ⟨[],[],[3],[],[]⟩ fun _ _ Z=>?_;simp[aI,aG];and_intros<;>(try omega);apply Z;refine zr ⟨[],[],[3],[],[]⟩ fun _ _ Z=>?_;refine zs 2 fun _ Y=>?_;simp[aI,aG];and_intros<;>(try omega);apply Y;refine aF fun _ Y=>?_;simp[aI,aG];refine cT (aCv σ.length t [] _ (by simp) (by simpa using hc)) ?_;apply Y;simp only [eJ];apply Z;refine zr ⟨[],[],[3],[],[]⟩ fun _ _ Z=>?_;simp[aI,aG];apply Z;apply aC;simp [aH]
theorem aQo(t:TN)(σ:List (List D))(hc:rV t<=9999):Ct prog 57 [rE t] σ (fun r σ'=>r= .sl false ((tO t).map D.int)/\σ'=σ):=
 (aJt t σ hc).trim fun r σ' ⟨hr,J,hs⟩=>⟨σ,J,hs,rfl,by rw [hr];exact Sc.sl (Sc.map fun a=>Sc.v _),fun n cs h=> .inl h,hr,rfl⟩
theorem aBf(i:Int)(a b:Nat):((List.range a).map fun(n:Nat)=>i+(n:Int))++((List.range b).map fun(n:Nat)=>i+(a:Int)+(n:Int))=(List.range (a+b)).map fun(n:Nat)=>i+(n:Int):=by
 rw [zR,cE,eA];congr 1;refine cW fun n _=>?_;simp only [Function.comp];omega
theorem aIq(i:Int)(b:Nat):i::((List.range b).map fun(n:Nat)=>i+1+(n:Int))=(List.range (b+1)).map fun(n:Nat)=>i+(n:Int):=by
 have:=aBf i 1 b;rw [sK b 1,<- this];simp
theorem Wk {L:List ND} :∀(v:VN) (f:Nat) (i par:Int),cB v<=f+1->(∀n∈jA i par v,aJ L n.ID=n)->tO (oC L f i)=(List.range (cB v)).map fun(n:Nat)=>i+(n:Int)
 | v, f, i, par, hf, hl => by
  have hroot:aJ L i=wT i par v (iD (i+1) v.kids):=by
   have:=hl (wT i par v (iD (i+1) v.kids)) (by rw [nE];exact dH)
   rwa [kH] at this
  have hkid:∀(g:Nat) (ks:List VN) (i':Int),(∀k∈ks,k∈v.kids/\cB k<=g+1)->(∀n∈nZ i' i ks,aJ L n.ID=n)->((iD i' ks).map fun c=>tO (oC L g c)).flatten=(List.range (ks.map cB).sum).map fun(n:Nat)=>i'+(n:Int):=by
   intro g ks;induction ks with
   | nil=>intro i' _ _;rfl
   | cons k ks ih=>
    intro i' h1 h2;rw [tE] at h2;have hkv:=(h1 k dH).1;simp only [iD,cC,nU,iA];rw [Wk k g i' i (h1 k dH).2 fun n hn=>h2 n (gE _ hn),ih _ (fun x hx=>h1 x (eV _ hx)) fun n hn=>h2 n (pA _ hn)];exact aBf i' (cB k) (ks.map cB).sum
  have hgk:∀n∈nZ (i+1) i v.kids,aJ L n.ID=n:=fun n hn=>hl n (by rw [nE];exact eV _ hn);have hc:=jC v;cases f with
  | zero =>
   have hn:v.kids= []:=by
    have:=jV v;exact sB.1 (by omega)
   simp only [oC];rw [Ee,hc,hn];show [i]=_
   simp
  | succ g=>
   simp only [oC];rw [Ee];show i::(((aJ L i).kids.map (oC L g)).map tO).flatten=_
   rw [hroot,wU,eA,show(tO ∘ oC L g)=(fun c=>tO (oC L g c))from rfl,hkid g v.kids (i+1) (fun k hk=>⟨hk,by have:=dQ hk;omega⟩) hgk,aIq,hc,sK]
termination_by v=>cB v
decreasing_by
 have:=dQ hkv;omega
theorem AllOk.none {n:Nat} {os:List Nat} (h:AllOk σ q n lo hi os):Ct prog 47 [.ref q 0,D.int 0] σ (fun r τ=>r=aKn/\τ=σ):=
 (aC7 0 h.iq (Lb σ) fun x hx=>by
  obtain⟨-,j,w,p,rs,h2⟩:=h.itm x hx;exact⟨_,h2,by rw [Iu h2];rfl⟩).mono fun r τ hr=>⟨by
   rw [hr.1];unfold aGo;have:os.find? (fun x=>decide (Lb σ x=0))= .none:=by
    rw [nQ];intro x hx;obtain⟨a,ha,rfl⟩:=iN hx;rw [h.num a ha];simp;omega
   rw [this],hr.2⟩
section
variable {m M l:Nat}{d:DS}{rk:Int->Nat}
theorem aK5 {most:Int} (h:LX 0 m M l d rk (newX most) [] σ):d.es.length=1:=by
 have e1:=h.ix.xp.len;have e2:d.x.l=d.l:=rfl;rw [e2,Ai] at e1;exact e1.symm
theorem aA5 {most:Int} (h:LX 0 m M l d rk (newX most) [] σ) (hv:VG v)(gv:GV v)(cv:cB v<=25):
  Ct prog 30 [.ref l 0,iX v] σ (fun r τ=>(max 1 (min most 65536)<(cB (cZ v):Int)/\r= .tup [aKn,D.int 8]/\τ=σ)\/(¬max 1 (min most 65536)<(cB (cZ v):Int)/\
   ∃(q:Nat) (σ1:List (List D)) (o1:List TOp) (oq:List Nat) (t1:TN) (w:VN) (rs:List Nat),r= .tup [.ref q 0,D.int 0]/\τ=σ1/\σ1[l]?=some (pC m o1)/\oq.length=cB (cZ v)/\σ1[q]?=some (jG 1 w aKn rs)/\aBy m 1 t1 σ1/\TB t1/\Au t1=Rq (cZ v)/\tO t1=((List.range (cB (cZ v))).map fun(a:Nat)=>1+(a:Int))/\
    Ct prog 46 [.ref q 0] σ1 (fun r τ=>r= .sl true (oq.map fun q=>D.ref q 0)/\τ=σ1)/\(∀(j:Nat) (hj:j<oq.length),Ct prog 47 [.ref q 0,D.int ((j:Int)+1)] σ1 (fun r τ=>r= .ref (oq[j]) 0/\τ=σ1))/\Ct prog 47 [.ref q 0,D.int 0] σ1 (fun r τ=>r=aKn/\τ=σ1)/\
    Ct prog 39 [.ref q 0] σ1 (fun r τ=>r=D.int 0/\τ=σ1)/\Ct prog 40 [.ref q 0] σ1 (fun r τ=>r=D.int 0/\τ=σ1)/\
    ∀(j:Nat) (hj:j<oq.length),∃(w:VN) (rs:List Nat) (p:Nat),(j=0->σ1[oq[j]]?=some (jG ((j:Int)+1) w aKn rs))/\(0<j->σ1[oq[j]]?=some (jG ((j:Int)+1) w (.ref p 0) rs)))):=by
 have c1:=Ca v;have nv:=Tm hv gv;have hes:=aK5 h;by_cases hb:max 1 (min most 65536)<(cB (cZ v):Int)
 .exact(aLt 0 m M l d rk (newX most) [] v σ h (by omega) hv (by omega) (by omega) (by
   rw [h.room];show max 1 (min most 65536) - ((([oA].length:Nat):Int) - 1)<_
   simp;omega)).mono fun r τ hr=> .inl ⟨hb,hr.1,hr.2⟩
 obtain⟨d1,rk1,o1,σ1,hm,lx1,it⟩:=Ve h (Up.new most) hv gv cv (by omega) (by show(([oA].length:Nat):Int)+_<=max 1 (min most 65536)+1;simp;omega);have hnd:=(aYd lx1.ix).nd;have hat:∀n∈jA 1 (-1) (cZ v),aJ (sZ (newX most) (cZ v)).l n.ID=n:=fun n hn=>pH hnd (pA _ hn);have hL:fP (sZ (newX most) (cZ v)).l 1=true:=by
  have:=aDc hnd (show wT 1 (-1) (cZ v) (iD (1+1) (cZ v).kids)∈(sZ (newX most) (cZ v)).l from pA _ (by
   show _∈jA 1 (-1) (cZ v)
   rw [nE];exact dH))
  rwa [kH] at this
 obtain⟨f,hf⟩:∃f,f=rk1 1+30:=⟨_,rfl⟩;have r1:=lx1.rd (by omega) (f:=f) (i:=1) (by omega) hL;have hno:=Ot (l:=(sZ (newX most) (cZ v)).l) (cZ v) f 1 (-1) nv.tk (by omega) hat;have hids:=Wk (L:=(sZ (newX most) (cZ v)).l) (cZ v) f 1 (-1) (by omega) hat;obtain⟨rs,hq, -⟩:=it.at_;obtain⟨t,aq,hsq⟩:=it.all2 (lo:=0) (hi:=σ1.length) (by omega) fun p hp=>⟨iM _,hp.2.1⟩;refine hm.mono fun r τ hr=> .inr ⟨hb,σ.length,σ1,o1,σ.length::t,_,cZ v,rs,hr.1,hr.2,lx1.at_,aq.len,hq,r1,aSh _ (by rw [hno];exact aN4 _ (Xz hv (by omega))),hno,hids,aq.order (by omega),fun j hj=>?_,aq.none,aq.rest (by omega),aq.calm (by omega),fun j hj=>?_⟩
 .have hfj:=aq.find ((j:Int)+1) (by omega);have e:((j:Int)+1 - 1).toNat=j:=by omega
  rw [e] at hfj;have ex:Sr (σ.length::t) j= .ref ((σ.length::t)[j]) 0:=by unfold Sr;rw [aS hj]
  rw [ex] at hfj;exact hfj
 cases j with
 | zero=>exact⟨cZ v,rs,0,fun _=>hq,fun h9=>absurd h9 (by omega)⟩
 | succ j=>
  obtain⟨w,p,r9,hx⟩:=hsq.at_ j (by simpa using hj);refine⟨w,r9,p,fun h9=>absurd h9 (by omega),fun _=>?_⟩;rw [zM,hx];rw [show(((j+1:Nat):Int)+1)=1+1+(j:Int) by omega]
end
theorem aPr(v:VN)(σ:List (List D))(h:VG v)(hc:cB v<=100):Ct prog 51 [iX v] σ (fun r σ'=>r=rE (Rq (cZ v))/\σ'=σ):=(aTr v σ h hc).strip fun r σ' h=>⟨h.1.1,h.1.2,h.2⟩
end Go.Proofs.YtbgfljpnhhdkoaaGreat
