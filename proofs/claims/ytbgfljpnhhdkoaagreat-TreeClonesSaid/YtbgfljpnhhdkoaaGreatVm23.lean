import Derived.Test.YtbgfljpnhhdkoaaGreatTeCl
import Derived.Test.YtbgfljpnhhdkoaaGreatWkTf2
import Derived.Test.YtbgfljpnhhdkoaaGreatVm22
import Derived.ProofKit
set_option linter.all false
set_option maxHeartbeats 8000000
set_option maxRecDepth 20000
open Go.Proofs.Tryz
namespace Go.Proofs.YtbgfljpnhhdkoaaGreat
open Go Go.Vm
variable {F:Nat->Prop}{par:D}{v:VN}{x:Nat}{σ:List (List D)}
def k7(z:Int):Int:=IntKind.i64.wrap (((z % 2 ^ IntKind.i64.bits).toNat &&& ((7:Int) % 2 ^ IntKind.i64.bits).toNat:Nat):Int)
abbrev aHx:D:= .v (.pointer none)
section
variable {m M l:Nat}{d:DS}{rk:Int->Nat}
end
def Ub(σ:List (List D))(x:Nat):Int:=match ((σ[x]?:Option (List D)).bind fun cs=>(cs[0]?:Option D))with
 | some (D.v (Value.int _ k))=>k
 | _=>0
theorem Qw {i:Int} {qs:List Nat} (h:σ[x]?=some (fZ i v par qs)):Ub σ x=i:=by unfold Ub;rw [h];rfl
theorem Vy {f:Nat->Int} :∀(os:List Nat) (i:Int),(∀(a:Nat) (h:a<os.length),f os[a]=i+(a:Int))->∀id,i<=id->os.find? (fun x=>decide (f x=id))=os[(id - i).toNat]?
 | [],i,_,id,_=>by simp
 | x :: os, i, h, id, hid => by
  have h0:f x=i:=by have:=h 0 (by simp);simpa using this
  by_cases e:i=id
  .subst e;rw [List.find?_cons_of_pos (by simp [h0])];simp
  rw [List.find?_cons_of_neg (by simp [h0,e]),Vy os (i+1) (fun a ha=>by
   have:=h (a+1) (by simpa using ha);rw [Gf] at this;rw [this];omega) id (by omega),show(id - i).toNat=(id - (i+1)).toNat+1 by omega,List.getElem?_cons_succ]
structure AllOk(σ:List (List D))(q n lo hi:Nat)(os:List Nat):Prop where
 iq:IQ σ q os
 len:os.length=n
 nd:os.Nodup
 num:∀(a:Nat) (h:a<os.length),Ub σ os[a]=1+(a:Int)
 itm:∀x∈os,(lo<=x/\x<hi)/\∃(j:Int) (w:VN) (p:D) (rs:List Nat),σ[x]?=some (fZ j w p rs)
theorem ItOk.all2 {q lo hi:Nat} (it:ItOk σ F 1 v par q)(hc:cJ v<=9999)(hF:∀p,F p->lo<=p/\p<hi):∃t,AllOk σ q (cJ v) lo hi (q::t)/\Sq σ (1+1) t:=by
 obtain⟨t,t1,t2,t3,t4, -⟩:=it.ord hc;obtain⟨rs,hq, -⟩:=it.at_;have h0:=it.F_;refine⟨t,⟨t1,by simpa using t2,?_,fun a ha=>?_,fun x hx=>?_⟩,t3⟩
 .rw [gW];exact⟨fun hm=>by have:=(t4 _ hm).2;omega,t3.nodup⟩
 .cases a with
  | zero=>rw [xQ,Qw hq];rfl
  | succ a=>
   obtain⟨w,p,r9,hx⟩:=t3.at_ a (by simpa using ha);rw [Gf,Qw hx];omega
 rcases bN.1 hx with rfl | hx
 .exact⟨hF _ h0,_,_,_,_,hq⟩
 obtain⟨j,w,p,r9, -,hx1⟩:=t3.has x hx;exact⟨hF _ (t4 x hx).1,_,_,_,_,hx1⟩
theorem ItOk.all {q lo hi:Nat} (it:ItOk σ F 1 v par q)(hc:cJ v<=9999)(hF:∀p,F p->lo<=p/\p<hi):∃os,AllOk σ q (cJ v) lo hi os:=by
 obtain⟨t,h, -⟩:=it.all2 hc hF;exact⟨_,h⟩
section
variable {τ:List (List D)}{q n lo hi:Nat}{os:List Nat}
theorem AllOk.frame(h:AllOk σ q n lo hi os)(hf:∀p,lo<=p->p<hi->τ[p]?=σ[p]?):AllOk τ q n lo hi os:=by
 have hm:∀x∈os,τ[x]?=σ[x]?:=fun x hx=>hf x (h.itm x hx).1.1 (h.itm x hx).1.2;refine⟨h.iq.frame fun x hx cs hcs=>⟨cs,(hm x hx).trans hcs,rfl⟩,h.len,h.nd,fun a ha=>?_,fun x hx=>?_⟩
 .rw [<- h.num a ha];unfold Ub;rw [hm _ (bP ha)]
 obtain⟨h1,j,w,p,rs,h2⟩:=h.itm x hx;exact⟨h1,j,w,p,rs,(hm x hx).trans h2⟩
def tK(os:List Nat)(a:Nat):D:=match os[a]? with
 | some x=> .ref x 0
 | none=> .v (.pointer none)
theorem AllOk.find(h:AllOk σ q n lo hi os)(id:Int)(h1:1<=id):Ct prog 47 [.ref q 0,D.int id] σ (fun r τ=>r=tK os (id - 1).toNat/\τ=σ):=
 (aP6 id h.iq (Ub σ) fun x hx=>by
  obtain⟨-,j,w,p,rs,h2⟩:=h.itm x hx;exact⟨_,h2,by rw [Qw h2];rfl⟩).mono fun r τ hr=>⟨by
   rw [hr.1];unfold aJi tK;rw [Vy os 1 h.num id h1];cases os[(id - 1).toNat]? <;> rfl,hr.2⟩
theorem AllOk.order(h:AllOk σ q n lo hi os)(hn:n<=9999):Ct prog 46 [.ref q 0] σ (fun r τ=>r= .sl true (os.map fun q=>D.ref q 0)/\τ=σ):=aHm h.iq (by have:=h.len;omega)
theorem AllOk.rest(h:AllOk σ q n lo hi os)(hn:n<=9999):Ct prog 39 [.ref q 0] σ (fun r τ=>r=D.int 0/\τ=σ):=
 (Tq q os (fun _=>0) (fun _=>0) σ h.iq (by have:=h.len;omega) fun x hx=>by
  obtain⟨-,j,w,p,rs,h2⟩:=h.itm x hx;exact⟨_,h2,rfl,rfl⟩).mono fun r τ hr=>⟨by
   have:os.countP (fun x=> !(decide ((0:Int)=0) && decide ((0:Int)=0)))=0:=by rw [List.countP_eq_zero];intro x _;decide
   rw [hr.1,this];rfl,hr.2⟩
theorem Wi:∀(A B:List (List Nat)),A.length=B.length->(∀(j:Nat) (h1:j<A.length) (h2:j<B.length),A[j].Sublist B[j])->A.flatten.Sublist B.flatten
 | [], [],_,_=>zD _
 | [],b::B,h,_=>by simp at h
 | a::A, [],h,_=>by simp at h
 | a::A,b::B,h,hs=>by
  rw [oK,oK];exact(hs 0 (by simp) (by simp)).append (Wi A B (by simpa using h) fun j h1 h2=>hs (j+1) (by simpa using h1) (by simpa using h2))
theorem IQ.cut (h:IQ σ q os)(hx:∃cs,τ[x]?=some cs/\cs[26]?=some (.sl true [])):(∀y∈os,y≠x->τ[y]?=σ[y]?)->∃os2,IQ τ q os2/\os2.Sublist os/\(x∈os->x∈os2):=by
 induction h with
 | mk q cs qs oss hq h26 hlen hl hk ih =>
  intro hf;by_cases e:q=x
  .subst e;obtain⟨cs2,c1,c2⟩:=hx;exact⟨[q],.mk q cs2 [] [] c1 c2 (by decide) rfl fun j h1 _=>absurd h1 (by simp),by simp,fun _=>dY⟩
  obtain⟨l,l1,l2⟩:=xI (P:=fun j o=>∀(h1:j<qs.length) (h2:j<oss.length),IQ τ qs[j] o/\o.Sublist oss[j]/\(x∈oss[j]->x∈o)) qs.length fun j hj=>by
   obtain⟨o,o1,o2,o3⟩:=ih j hj (by omega) fun y hy=>hf y (fW _ (oQ.2 ⟨_,bP _,hy⟩));exact⟨o,fun _ _=>⟨o1,o2,o3⟩⟩
  refine⟨q::l.flatten,.mk q cs qs l ((hf q dY e).trans hq) h26 hlen l1 (fun j h1 h2=>(l2 j h2 h1 (by omega)).1),List.Sublist.cons_cons _ (Wi l oss (by omega) fun j h1 h2=>(l2 j h1 (by omega) h2).2.1),fun hm=>?_⟩;rcases bN.1 hm with rfl | hm
  .exact absurd rfl e
  obtain⟨o,ho,hxo⟩:=oQ.1 hm;obtain⟨j,hj,rfl⟩:=jA ho;exact fW _ (oQ.2 ⟨_,bP (by omega:j<l.length),(l2 j (by omega) (by omega) hj).2.2 hxo⟩)
theorem AllOk.one(h:AllOk σ q n lo hi os)(hn:n<=9999) (hx:x∈os) {j:Int} {w:VN} {p:D} {kd:Int} (hk:¬kd=0):Ct prog 39 [.ref q 0] (σ.set x (Sm j w ⟨kd,0,0,0⟩ p [])) (fun r τ=>r=D.int 1/\τ=σ.set x (Sm j w ⟨kd,0,0,0⟩ p [])):=by
 obtain⟨-,j0,w0,p0,rs0,h0⟩:=h.itm x hx;have hg:=aM h0 (Sm j w ⟨kd,0,0,0⟩ p []);obtain⟨o2,i1,i2,i3⟩:=h.iq.cut (τ:=σ.set x (Sm j w ⟨kd,0,0,0⟩ p [])) (x:=x) ⟨_,hg,rfl⟩ fun y _ hy=>dF (fun e=>hy e.symm);have hmem:=i3 hx;have hl:=i2.length_le;have h15:∀y∈o2,∃cs,(σ.set x (Sm j w ⟨kd,0,0,0⟩ p []))[y]?=some cs/\cs[15]?=some (D.int (if y=x then kd else 0))/\cs[16]?=some (D.int 0):=fun y hy=>by
  by_cases e:y=x
  .subst e;exact⟨_,hg,by rw [aL rfl];rfl,rfl⟩
  obtain⟨-,j1,w1,p1,rs1,h1⟩:=h.itm y (i2.subset hy);exact⟨_,(dF (fun e2=>e e2.symm)).trans h1,by rw [aD e];rfl,rfl⟩
 refine(Tq q o2 (fun y=>if y=x then kd else 0) (fun _=>0) _ i1 (by have:=h.len;omega) h15).mono fun r τ hr=>⟨?_,hr.2⟩;have hc:=Yd (os:=o2) (n:=1) (qf:=fun _=>x) (f:=fun y=> !(decide ((if y=x then kd else 0)=0) && decide ((0:Int)=0))) (h.nd.sublist i2) (fun a b ha hb _=>by omega) (fun _ _=>hmem) fun y hy hf=>⟨0,by decide,by
  by_cases e:y=x
  .exact e
  simp [e] at hf⟩
 rw [hr.1,hc];simp [hk]
variable {m M l:Nat} {d:DS} {rk:Int->Nat}
theorem Vv(h:LX 0 m M l d rk (newX 50) [] σ) (hv:VG v)(gv:GV v)(cv:cJ v<=25)(id kd:Int)(h1:1<=id)(hkd:¬kd=0):
  ∃ (q c : Nat) (σ1 σ2 : List (List D)) (oq oc : List Nat) (w : VN) (rs : List Nat), Ct prog 30 [.ref l 0, jQ v] σ (fun r τ => r = .tup [.ref q 0, D.int 0] /\ τ = σ1) /\ Ct prog 45 [.ref q 0] σ1 (fun r τ => r = .ref c 0 /\ τ = σ2) /\
   σ2[c]?=some (fZ 1 w aHx rs)/\oc.length=oq.length/\oq.length=cJ (fN v)/\Ct prog 46 [.ref c 0] σ2 (fun r τ=>r= .sl true (oc.map fun q=>D.ref q 0)/\τ=σ2)/\Ct prog 46 [.ref q 0] σ2 (fun r τ=>r= .sl true (oq.map fun q=>D.ref q 0)/\τ=σ2)/\
   Ct prog 47 [.ref c 0,D.int id] σ2 (fun r τ=>τ=σ2/\((r=aHx/\Ct prog 47 [.ref q 0,D.int id] σ2 (fun r τ=>r=aHx/\τ=σ2))\/
    ∃(x y:Nat) (j:Int) (w:VN) (p:D) (rs:List Nat) (j2:Int) (w2:VN) (p2:D) (rs2:List Nat),r= .ref x 0/\y≠x/\σ2[x]?=some (fZ j w p rs)/\Ct prog 47 [.ref q 0,D.int id] σ2 (fun r τ=>r= .ref y 0/\τ=σ2)/\
     Ct prog 47 [.ref q 0,D.int id] (σ2.set x (Sm j w ⟨kd,0,0,0⟩ p [])) (fun r τ=>r= .ref y 0/\τ=σ2.set x (Sm j w ⟨kd,0,0,0⟩ p []))/\(σ2.set x (Sm j w ⟨kd,0,0,0⟩ p []))[y]?=some (fZ j2 w2 p2 rs2)/\(σ2.set x (Sm j w ⟨kd,0,0,0⟩ p []))[x]?=some (Sm j w ⟨kd,0,0,0⟩ p [])/\
     Ct prog 39 [.ref q 0] (σ2.set x (Sm j w ⟨kd,0,0,0⟩ p [])) (fun r τ=>r=D.int 0/\τ=σ2.set x (Sm j w ⟨kd,0,0,0⟩ p []))/\Ct prog 39 [.ref c 0] (σ2.set x (Sm j w ⟨kd,0,0,0⟩ p [])) (fun r τ=>r=D.int 1/\τ=σ2.set x (Sm j w ⟨kd,0,0,0⟩ p []))/\
     Ct prog 46 [.ref q 0] (σ2.set x (Sm j w ⟨kd,0,0,0⟩ p [])) (fun r τ=>r= .sl true (oq.map fun q=>D.ref q 0)/\τ=σ2.set x (Sm j w ⟨kd,0,0,0⟩ p [])))):=by
 have c1:=Cp v;obtain⟨d1,rk1,o1,σ1,hm,lx1,it⟩:=Ua h (Up.new 50) hv gv cv (by omega) (by show(([nU].length:Nat):Int)+_<=max 1 (min 50 65536)+1;simp;omega);obtain⟨σ2,hcl,hlen,hkeep,itc⟩:=Pn (fN v) (by omega) it fun p hp=>hp.2.1;obtain⟨oq,aq1⟩:=it.all (lo:=0) (hi:=σ1.length) (by omega) fun p hp=>⟨iI _,hp.2.1⟩;have aq:=aq1.frame (τ:=σ2) fun p _ hp=>hkeep p hp;obtain⟨oc,ac⟩:=ItOk.all (lo:=σ1.length) (hi:=σ2.length) itc (by omega) fun p hp=>hp;obtain⟨rs,hc, -⟩:=itc.at_;refine⟨σ.length,σ1.length,σ1,σ2,oq,oc,fN v,rs,hm,hcl,hc,by rw [aq.len,ac.len],aq.len,ac.order (by omega),aq.order (by omega),?_⟩;refine(ac.find id h1).mono fun r τ hr=>⟨hr.2,?_⟩;have hfq:=aq.find id h1;by_cases hin:(id - 1).toNat<cJ (fN v)
 .have hx1:(id - 1).toNat<oc.length:=by rw [ac.len];exact hin
  have hy1:(id - 1).toNat<oq.length:=by rw [aq.len];exact hin
  obtain⟨hxb,j,w,p,rx,hx⟩:=ac.itm _ (bP hx1);obtain⟨hyb,j2,w2,p2,ry,hy⟩:=aq.itm _ (bP hy1);have hne:oq[(id - 1).toNat]≠oc[(id - 1).toNat]:=by omega
  have ex:tK oc (id - 1).toNat= .ref (oc[(id - 1).toNat]) 0:=by unfold tK;rw [aS hx1]
  have ey:tK oq (id - 1).toNat= .ref (oq[(id - 1).toNat]) 0:=by unfold tK;rw [aS hy1]
  have aq3:=aq.frame (τ:=σ2.set (oc[(id - 1).toNat]) (Sm j w ⟨kd,0,0,0⟩ p [])) fun p _ hp=>dF (by omega);have hf3:=aq3.find id h1;rw [ey] at hfq hf3;exact .inr ⟨_,_,j,w,p,rx,j2,w2,p2,ry,hr.1.trans ex,hne,hx,hfq,hf3,(dF (fun e=>hne e.symm)).trans hy,aM hx _,aq3.rest (by omega),ac.one (by omega) (bP hx1) hkd,aq3.order (by omega)⟩
 have ex:tK oc (id - 1).toNat=aHx:=by unfold tK;rw [gQ (by rw [ac.len];omega)]
 have ey:tK oq (id - 1).toNat=aHx:=by unfold tK;rw [gQ (by rw [aq.len];omega)]
 rw [ey] at hfq;exact .inl ⟨hr.1.trans ex,hfq⟩
end
def kk3(z:Int):Int:=IntKind.i64.wrap (((z % 2 ^ IntKind.i64.bits).toNat &&& ((3:Int) % 2 ^ IntKind.i64.bits).toNat:Nat):Int)
theorem aXe(z:Int):0<=k7 z/\k7 z<=7:=by
 have h:(z % 2 ^ IntKind.i64.bits).toNat &&& ((7:Int) % 2 ^ IntKind.i64.bits).toNat<=7:=Nat.and_le_right;unfold k7;generalize (z % 2 ^ IntKind.i64.bits).toNat &&& ((7:Int) % 2 ^ IntKind.i64.bits).toNat=m at h;rw [IntKind.wrap_i64];omega
theorem aUc(z:Int):0<=kk3 z/\kk3 z<=3:=by
 have h:(z % 2 ^ IntKind.i64.bits).toNat &&& ((3:Int) % 2 ^ IntKind.i64.bits).toNat<=3:=Nat.and_le_right;unfold kk3;generalize (z % 2 ^ IntKind.i64.bits).toNat &&& ((3:Int) % 2 ^ IntKind.i64.bits).toNat=m at h;rw [IntKind.wrap_i64];omega
theorem Lq(f:List FL)(id kd:Int)(σ:List (List D))(hlf:f.length<=9223372036854775807)(hf:∀x∈f,FO x):Ct prog 8 [.sl false (f.map Qr),D.int id,D.int kd] σ (fun r σ'=>r= .bool true):=by
 refine zf func8 ?_;have hb7:=aXe id;have hb3:=aUc kd;have hm7:IntKind.i64.wrap (((id % 2 ^ IntKind.i64.bits).toNat &&& 7 % 2 ^ IntKind.i64.bits:Nat):Int)=k7 id:=rfl;have hm3:IntKind.i64.wrap (((kd % 2 ^ IntKind.i64.bits).toNat &&& 3 % 2 ^ IntKind.i64.bits:Nat):Int)=kk3 kd:=rfl;refine zr ⟨[],[],[],[],[116]⟩ fun _ _ Z=>?_;simp[hm7,hm3];apply Z;apply aE;refine zr ⟨[],[],[],[],[116]⟩ fun _ _ Z=>?_;refine aF fun _ Y=>?_;simp[hm7,hm3];refine Lt (Zb _) ?_;rintro _ σ1 hr9;subst hr9;apply Y;simp[hm7,hm3];apply Z;refine zI ?_ ?_<;>intro c1<;>try simp at c1
 apply zA;refine zr ⟨[],[],[],[],[116]⟩ fun _ _ Z=>?_;refine zs 1 fun _ Y=>?_;simp[hm7,hm3];apply Y;refine aF fun _ Y=>?_;simp[hm7,hm3];refine Lt (aOj f 20 _ (by omega) hlf hf) ?_;rintro _ τ1 ⟨⟨v,hr1,hvv,hcv⟩,hτ1⟩;subst hr1 hτ1;apply Y;simp[hm7,hm3];apply Z;refine zr ⟨[],[],[],[],[116]⟩ fun _ _ Z=>?_;refine aF fun _ Y=>?_;simp[hm7,hm3];refine Lt (Ow 50 _) ?_;rintro _ τ0 ⟨m,M,l,d,rk,hr9,hx⟩;subst hr9;have hg:=hx.at_;apply Y;simp[hm7,hm3,hg];apply Z;apply aE;refine zr ⟨[],[],[],[],[116]⟩ fun _ _ Z=>?_;simp[hm7,hm3,hg];apply Z;refine zI ?_ ?_<;>intro c2<;>try simp at c2
 apply zA;apply aE;refine zr ⟨[],[],[],[],[116]⟩ fun _ _ Z=>?_;refine zs 1 fun _ Y=>?_;simp[hm7,hm3,hg];apply Y;refine aF fun _ Y=>?_;simp[hm7,hm3,hg];refine Lt (aEq v 20 4096 _ hvv (by omega)) ?_;rintro _ _ ⟨⟨e1,hr9,he1⟩,hs9⟩;subst hr9;subst hs9;apply Y;simp[hm7,hm3,hg];apply Z;refine zI ?_ ?_<;>intro c3<;>try simp at c3
 .refine zk [1,2,6,7,8] ?_;refine zr ⟨[],[],[],[],[116]⟩ fun _ _ Z=>?_;simp[hm7,hm3,hg];apply Z;apply aC;simp [aH]
 apply zA;refine zk [1,2,6,7,8] ?_;refine zr ⟨[],[],[],[],[116]⟩ fun _ _ Z=>?_;refine zs 2 fun _ Y=>?_;simp[hm7,hm3,hg];apply Y;refine aF fun _ Y=>?_;simp[hm7,hm3,hg];refine cU (aA1 v hvv (by omega) _) ?_;apply Y;refine aF fun _ Y=>?_;simp[hm7,hm3,hg];obtain⟨q,c,τ1,τ2,oq,oc,w,rs,hmk,hcl,hcc,hol,hon,hoc,hoq,hfc⟩:=Vv hx hvv (he1 c3) (by omega) (1+k7 id) (1+kk3 kd) (by omega) (by omega);simp only [fZ] at hcc;refine cU (hmk) ?_;apply Y;simp[hm7,hm3,hg,hcc,hol,hon];apply Z;apply aE;refine zk [1,2,6,7,9,10] ?_;refine mK ⟨[],[],[],[],[116]⟩ fun all hall _ Z=>?_;have ga2:aO all 2=some 32:=hall 2;refine zs 3 fun _ Y=>?_;simp[ga2,hm7,hm3,hg,hcc,hol,hon];apply Y;refine zb 32 ?_ ?_<;>intro g4<;>try simp at g4
 simp[ga2,hm7,hm3,hg,hcc,hol,hon];apply Z;refine zI ?_ ?_<;>intro c5<;>try simp at c5
 apply zA;refine zk [1,2,6,7,9] ?_;refine zr ⟨[],[],[],[],[116]⟩ fun _ _ Z=>?_;refine zs 1 fun _ Y=>?_;simp[hm7,hm3,hg,hcc,hol,hon];apply Y;refine aF fun _ Y=>?_;simp[hm7,hm3,hg,hcc,hol,hon];refine cU (hcl) ?_;apply Y;simp[hm7,hm3,hg,hcc,hol,hon];apply Z;apply aE;refine zk [1,2,6,7,9,11] ?_;refine mK ⟨[],[],[],[],[116]⟩ fun all hall _ Z=>?_;have ga2:aO all 2=some 40:=hall 2;have ga9:aO all 9=some 47:=hall 9;refine zs 3 fun _ Y=>?_;simp[ga2,ga9,hm7,hm3,hg,hcc,hol,hon];apply Y;refine zb 40 ?_ ?_<;>intro g6<;>try simp at g6
 refine zs 7 fun _ Y=>?_;simp[ga2,ga9,hm7,hm3,hg,hcc,hol,hon];apply Y;refine zb 47 ?_ ?_<;>intro g7<;>try simp at g7
 refine zs 1 fun _ Y=>?_;simp[ga2,ga9,hm7,hm3,hg,hcc,hol,hon];apply Y;refine zg ga9 fun _ Y=>?_;simp[ga2,ga9,hm7,hm3,hg,hcc,hol,hon];refine cU (hoc) ?_;apply Y;refine zs 2 fun _ Y=>?_;simp[ga2,ga9,hm7,hm3,hg,hcc,hol,hon];and_intros<;>(try omega);apply Y;refine zg ga9 fun _ Y=>?_;simp[ga2,ga9,hm7,hm3,hg,hcc,hol,hon];refine cU (hoq) ?_;apply Y;simp[ga2,ga9,hm7,hm3,hg,hcc,hol,hon];and_intros<;>(try omega);apply Z;refine zI ?_ ?_<;>intro c8<;>try simp at c8
 apply zA;refine zk [1,2,6,7,9,11] ?_;refine zr ⟨[],[],[],[],[116]⟩ fun _ _ Z=>?_;simp[hm7,hm3,hg,hcc,hol,hon];and_intros<;>(try omega);apply Z;refine zr ⟨[],[],[],[],[116]⟩ fun _ _ Z=>?_;simp[hm7,hm3,hg,hcc,hol,hon];and_intros<;>(try omega);apply Z;refine zk [1,2,6,7,9,11] ?_;refine zr ⟨[],[],[],[],[116]⟩ fun _ _ Z=>?_;refine zs 2 fun _ Y=>?_;simp[hm7,hm3,hg,hcc,hol,hon];apply Y;refine aF fun _ Y=>?_;simp[hm7,hm3,hg,hcc,hol,hon];refine Lt (hfc) ?_;rintro _ τ9 ⟨hs9,(⟨hr9,hfq⟩ | ⟨x,y,j,w2,p2,rs2,j3,w3,p3,rs3,hr9,hxy,hx1,hfq,hf3,hy3,hx3,hb0,hb1,ho3⟩)⟩
 .subst hr9;replace hs9:=hs9.symm;subst hs9;apply Y;simp[hm7,hm3,hg,hcc,hol,hon];apply Z;apply aE;refine zr ⟨[],[],[],[],[116]⟩ fun _ _ Z=>?_;refine zs 4 fun _ Y=>?_;simp[hm7,hm3,hg,hcc,hol,hon];apply Y;refine aF fun _ Y=>?_;simp[hm7,hm3,hg,hcc,hol,hon];refine cU (hfq) ?_;apply Y;simp[hm7,hm3,hg,hcc,hol,hon];apply Z;refine zI ?_ ?_<;>intro c9<;>try simp at c9
  apply zA;apply aE;refine zk [1,2,6,7,9,11,12] ?_;refine zr ⟨[],[],[],[],[116]⟩ fun _ _ Z=>?_;simp[hm7,hm3,hg,hcc,hol,hon];apply Z;refine zI ?_ ?_<;>intro c10<;>try simp at c10
  refine zr ⟨[],[],[],[],[116]⟩ fun _ _ Z=>?_;simp[hm7,hm3,hg,hcc,hol,hon];apply Z;apply aC;simp [aH]
 subst hr9;replace hs9:=hs9.symm;subst hs9;simp only [fZ,Sm,iW] at hx1 hf3 hy3 hx3 hb0 hb1 ho3;have hgx:=fun c=>aM hx1 c;apply Y;simp[hm7,hm3,hg,hcc,hol,hon,hgx,hx1,hy3,hx3,hxy];apply Z;apply aE;refine zr ⟨[],[],[],[],[116]⟩ fun _ _ Z=>?_;refine zs 4 fun _ Y=>?_;simp[hm7,hm3,hg,hcc,hol,hon,hgx,hx1,hy3,hx3,hxy];apply Y;refine aF fun _ Y=>?_;simp[hm7,hm3,hg,hcc,hol,hon,hgx,hx1,hy3,hx3,hxy];refine cU (hfq) ?_;apply Y;simp[hm7,hm3,hg,hcc,hol,hon,hgx,hx1,hy3,hx3,hxy];apply Z;refine zI ?_ ?_<;>intro c11<;>try simp at c11
 apply zA;apply aE;refine zk [1,2,6,7,9,11,12] ?_;refine zr ⟨[],[],[],[],[116]⟩ fun _ _ Z=>?_;simp[hm7,hm3,hg,hcc,hol,hon,hgx,hx1,hy3,hx3,hxy];apply Z;refine zI ?_ ?_<;>intro c12<;>try simp at c12
 apply zA;refine zr ⟨[],[],[],[],[116]⟩ fun _ _ Z=>?_;simp[hm7,hm3,hg,hcc,hol,hon,hgx,hx1,hy3,hx3,hxy];apply Z;refine zk [1,6,7,9,11,12] ?_;refine zr ⟨[],[],[],[],[116]⟩ fun _ _ Z=>?_;simp[hm7,hm3,hg,hcc,hol,hon,hgx,hx1,hy3,hx3,hxy];apply Z;refine zk [1,6,7,9,11,12] ?_;refine zd ⟨[],[],[],[],[116]⟩ [.op {},.op {},.read,.op {},.op {},.op {},.op {},.op {rO:=true},.op {},.op {},.op {},.read,.op {},.op {},.op {},.op {},.read,.op {},.op {},.op {},.op {},.read,.op {},.op {rL:=true},.pure,.pure,.op {},.op {},.op {},.op {},.op {},.read,.op {},.op {rO:=true},.op {},.op {}] fun all hall _ Z=>?_;have ga9:aO all 9=some 92:=hall 9;have ga14:aO all 14=some 97:=hall 14;have ga19:aO all 19=some 102:=hall 19;have ga28:aO all 28=some 111:=hall 28;refine lN 2 fun _ Y=>?_;simp[ga9,ga14,ga19,ga28,hm7,hm3,hg,hcc,hol,hon,hgx,hx1,hy3,hx3,hxy];apply Y;refine cK fun _ Y=>?_;simp[ga9,ga14,ga19,ga28,hm7,hm3,hg,hcc,hol,hon,hgx,hx1,hy3,hx3,hxy];refine zdr (hf3) ?_;apply Y;refine lN 7 fun _ Y=>?_;simp[ga9,ga14,ga19,ga28,hm7,hm3,hg,hcc,hol,hon,hgx,hx1,hy3,hx3,hxy];apply Y;refine zbD 92 ?_ ?_<;>intro g13<;>try simp at g13
 refine lN 1 fun _ Y=>?_;simp[ga9,ga14,ga19,ga28,hm7,hm3,hg,hcc,hol,hon,hgx,hx1,hy3,hx3,hxy];apply Y;refine zdg ga9 fun _ Y=>?_;simp[ga9,ga14,ga19,ga28,hm7,hm3,hg,hcc,hol,hon,hgx,hx1,hy3,hx3,hxy];refine zdr (hb0) ?_;apply Y;refine lN 3 fun _ Y=>?_;simp[ga9,ga14,ga19,ga28,hm7,hm3,hg,hcc,hol,hon,hgx,hx1,hy3,hx3,hxy];apply Y;refine zbD 97 ?_ ?_<;>intro g14<;>try simp at g14
 refine lN 1 fun _ Y=>?_;simp[ga9,ga14,ga19,ga28,hm7,hm3,hg,hcc,hol,hon,hgx,hx1,hy3,hx3,hxy];apply Y;refine zdg ga14 fun _ Y=>?_;simp[ga9,ga14,ga19,ga28,hm7,hm3,hg,hcc,hol,hon,hgx,hx1,hy3,hx3,hxy];refine zdr (hb1) ?_;apply Y;refine lN 3 fun _ Y=>?_;simp[ga9,ga14,ga19,ga28,hm7,hm3,hg,hcc,hol,hon,hgx,hx1,hy3,hx3,hxy];apply Y;refine zbD 102 ?_ ?_<;>intro g15<;>try simp at g15
 refine lN 1 fun _ Y=>?_;simp[ga9,ga14,ga19,ga28,hm7,hm3,hg,hcc,hol,hon,hgx,hx1,hy3,hx3,hxy];apply Y;refine zdg ga19 fun _ Y=>?_;simp[ga9,ga14,ga19,ga28,hm7,hm3,hg,hcc,hol,hon,hgx,hx1,hy3,hx3,hxy];refine zdr (ho3) ?_;apply Y;refine lN 2 fun _ Y=>?_;simp[ga9,ga14,ga19,ga28,hm7,hm3,hg,hcc,hol,hon,hgx,hx1,hy3,hx3,hxy];and_intros<;>(try omega);apply Y;refine zdg ga19 fun _ Y=>?_;simp[ga9,ga14,ga19,ga28,hm7,hm3,hg,hcc,hol,hon,hgx,hx1,hy3,hx3,hxy];refine zW (fun _=>(Uy v hvv (by omega) _)) ?_;apply Y;refine zdg ga19 fun _ Y=>?_;simp[ga9,ga14,ga19,ga28,hm7,hm3,hg,hcc,hol,hon,hgx,hx1,hy3,hx3,hxy];refine zW (fun _=>(Tt (fN v) (by have:=Cp v;omega) _)) ?_;apply Y;refine lN 3 fun _ Y=>?_;simp[ga9,ga14,ga19,ga28,hm7,hm3,hg,hcc,hol,hon,hgx,hx1,hy3,hx3,hxy];apply Y;refine zbD 111 ?_ ?_<;>intro g16<;>try simp at g16
 refine lN 2 fun _ Y=>?_;simp[ga9,ga14,ga19,ga28,hm7,hm3,hg,hcc,hol,hon,hgx,hx1,hy3,hx3,hxy];apply Y;refine zdg ga28 fun _ Y=>?_;simp[ga9,ga14,ga19,ga28,hm7,hm3,hg,hcc,hol,hon,hgx,hx1,hy3,hx3,hxy];refine zdr (hf3) ?_;apply Y;simp[ga9,ga14,ga19,ga28,hm7,hm3,hg,hcc,hol,hon,hgx,hx1,hy3,hx3,hxy];apply Z;apply aC;simp [aH]
end Go.Proofs.YtbgfljpnhhdkoaaGreat
namespace Go.Vm
open Go Go.RowKit
variable {n:Nat}{w:World}{α:Type}
def zS(w:World):Mem:=fun b o=>w.cell? ⟨b,o,none⟩
def CellsAt(w:World)(ds:List D)(cs:List Value):Prop:=
 ds.length=cs.length/\∀(i:Nat) (c:D) (y:Value),ds[i]?=some c->cs[i]?=some y->R (zS w) [] c y/\y.oneCell'=true/\c.flat=true
def OpenAt(w:World)(d:D)(cs:List Value):Prop:=CellsAt w d.cells cs/\d≠ .any
def Opens(P:Program)(t:TypeId) {α:Type} (f:α->D)(p:α->Prop):Prop:=
 ∀(H:Type) (enc:TypeId×Value->H) (w:World) (spare:Nat->Bool) (held:Bool) (fuel:Nat) (cs:List Value) (x:DataW H×List MemPlace),DataW.trod enc P w 0 spare held fuel t cs=some x->∃a,p a/\OpenAt w (f a) cs
theorem OpenAt.one {d:D} {y:Value} (hd:d.cells= [d])(hr:R (zS w) [] d y)(h1:y.oneCell'=true)(hf:d.flat=true)(ha:d≠ .any):OpenAt w d [y]:=by
 refine⟨⟨by rw [hd];rfl,fun i c z h2 h3=>?_⟩,ha⟩;rw [hd] at h2
 match i with
 | 0=>simp at h2 h3;subst h2;subst h3;exact⟨hr,h1,hf⟩
 | i+1=>simp at h2
section
variable {P:Program} {t:TypeId}
theorem aAd(ht:P.underlying t=some .bool):Opens P t D.bool (fun _=>True):=by
 intro H enc w spare held fuel cs x h;obtain⟨b,rfl,_⟩:=DataW.trod_bool ht h;exact⟨b,trivial,.one rfl (.v _ rfl) rfl rfl (by simp)⟩
theorem aCf(ht:P.underlying t=some (.int .i64)):Opens P t D.int (fun n=> -9223372036854775808<=n/\n<=9223372036854775807):=by
 intro H enc w spare held fuel cs x h;obtain⟨n,rfl,_,hw⟩:=DataW.trod_int ht h;refine⟨n,?_,.one rfl (.v _ rfl) rfl rfl (by simp)⟩;have h1:IntKind.i64.min= -9223372036854775808:=rfl;have h2:IntKind.i64.max=9223372036854775807:=rfl;simp only [Lit.wf,gO,fM] at hw;omega
theorem aC0(ht:P.underlying t=some .string):Opens P t D.str (fun s=>s.size<=maxLen):=by
 intro H enc w spare held fuel cs x h;obtain⟨s,rfl,_,hw⟩:=DataW.trod_string ht h;exact⟨s,hw,.one rfl (.v _ rfl) rfl rfl (by simp)⟩
theorem OpenAt.value {d:D} {cs:List Value} (h:OpenAt w d cs):∃x:Value,x.cells.toList=cs/\R (zS w) [] d x:=by
 have gen:d.cells= [d]->∃x:Value,x.cells.toList=cs/\R (zS w) [] d x:=by
  intro hd;have hl:=h.1.1;rw [hd] at hl;obtain⟨y,rfl⟩:=List.length_eq_one_iff.1 hl.symm;have:=h.1.2 0 d y (by rw [hd];rfl) rfl;exact⟨y,by rw [Value.cells_one this.2.1],this.1⟩
 cases d with
 | agg ds=>
  refine⟨.agg cs.toArray,by simp [Value.cells],.agg ds cs.toArray (by have:=h.1.1;simp [D.cells] at this;simp [this]) (fun i e y a1 a2=>(h.1.2 i e y a1 (by simpa using a2)).1) (fun i y a2=>?_)⟩;have a2':cs[i]?=some y:=by simpa using a2
  have hi:=(aN.1 a2').1;have hl:=h.1.1;have hi2:i<(D.cells (.agg ds)).length:=by omega
  exact(h.1.2 i _ y (aS hi2) a2').2.1
 | _=>exact gen rfl
theorem Hn {Q:Nat->α->Prop} (h:∀i,i<n->∃a,Q i a):∃l:List α,l.length=n/\∀i a,l[i]?=some a->Q i a:=by
 induction n with
 | zero=>exact⟨[],rfl,by simp⟩
 | succ n ih =>
  obtain⟨l,hl,hq⟩:=ih (fun i hi=>h i (by omega));obtain⟨a,ha⟩:=h n (by omega);refine⟨l++ [a],by simp [hl],fun i b hb=>?_⟩;by_cases hi:i<l.length
  .rw [bB hi] at hb;exact hq i b hb
  rw [bX (by omega)] at hb;have h0:i - l.length=0:=by
   have:=(aN.1 hb).1;simp at this;omega
  rw [h0] at hb;simp at hb;subst hb;rw [show i=n by omega];exact ha
theorem Zh {d:D} :d.ncells=d.cells.length:=by cases d <;> rfl
theorem tB {e:TypeId} {f:α->D} {p:α->Prop} (ht:P.underlying t=some (.slice e))(h:Opens P e f p)(hk:0<P.cellsOf e):Opens P t (fun l:List α=> .sl false (l.map f)) (fun l=>l.length<=maxLen/\∀a∈l,p a):=by
 intro H enc w spare held fuel cs x hx;rcases DataW.trod_slice ht hx with ⟨rfl,_⟩ | ⟨a,len,cap,elems,rest,n,_,rfl,_,_,hlc,hcm,hlen,hel,_,_⟩
 .exact⟨[],⟨by simp,by simp⟩,.one rfl (.nil false) rfl rfl (by simp)⟩
 by_cases h0:len=0
 .subst h0;exact⟨[],⟨by simp,by simp⟩,.one rfl (.emp false a cap hcm) rfl rfl (by simp)⟩
 have each:∀i,i<len->∃b:α×List Value,p b.1/\OpenAt w (f b.1) b.2/\w.cells? 0 (a.add (i * P.cellsOf e)) (P.cellsOf e)=some b.2:=by
  intro i hi;have hi':i<elems.length:=by omega
  have:=hel i hi;rw [aS hi',mE] at this;obtain⟨ds,h1,h2⟩:=this;obtain⟨b,hb,ho⟩:=h H enc w spare held n ds _ h2;exact⟨(b,ds),hb,ho,h1⟩
 obtain⟨L,hL,hq⟩:=Hn each;have each2:∀i,i<len->∃v:Value,∃b,L[i]?=some b/\v.cells.toList=b.2/\R (zS w) [] (f b.1) v:=by
  intro i hi;have hi':i<L.length:=by omega
  have hb:L[i]?=some L[i]:=aS hi';obtain⟨v,h1,h2⟩:=(hq i _ hb).2.1.value;exact⟨v,_,hb,h1,h2⟩
 obtain⟨V,hV,hv⟩:=Hn each2;have hspot:a.spot=none:=by
  have hi':0<L.length:=by omega
  have h1:=(hq 0 _ (aS hi')).2.2;obtain⟨_,hl,hc⟩:=World.cells?_some h1;have h2:=hc 0 hk;rw [aS (by omega)] at h2;simpa [Addr.add] using World.cell?_spot h2
 obtain⟨b,off,spot⟩:=a;simp only at hspot;subst hspot;refine⟨L.map (·.1),⟨by rw [bQ,hL];exact qK hlc hcm,fun y hy=>?_⟩,.one rfl ?_ rfl rfl (by simp)⟩
 .obtain⟨z,hz,rfl⟩:=aX.1 hy;obtain⟨i,hi⟩:=eR hz;exact(hq i z hi).1
 refine .sl false _ b off len cap (P.cellsOf e) V (by simp [hV,hL]) (by simp [hL]) hk hlc hcm (fun i d x h1 h2=>?_) (fun i d h1=>?_) (fun i x h1=>?_)
 .obtain⟨z,hz,h3,h4⟩:=hv i x h2;simp only [cD,hz,gE,bE] at h1;subst h1;exact h4
 .simp only [cD,Option.map_map,dE] at h1;obtain⟨z,hz,rfl⟩:=h1;obtain⟨_,h5,h6⟩:=hq i z hz;show(f z.1).ncells=_
  rw [Zh,h5.1.1];exact(World.cells?_some h6).2.1
 obtain⟨z,hz,h3,h4⟩:=hv i x h1;obtain⟨_,h5,h6⟩:=hq i z hz;obtain⟨_,h7,h8⟩:=World.cells?_some h6;have hsz:x.cells.size=P.cellsOf e:=by rw [<- h7,<- h3,cB]
 refine⟨hsz,fun j c hj=>?_⟩;have hjl:j<P.cellsOf e:=by rw [<- hsz];exact(dK.1 hj).1
 have hj2:z.2[j]?=some c:=by rw [<- h3];simpa using hj
 have hj3:j<(f z.1).cells.length:=by rw [h5.1.1];omega
 refine⟨(h5.1.2 j _ c (aS hj3) hj2).2.1,?_⟩;have:=h8 j hjl;rw [Addr.add_none,Addr.add_none,hj2] at this;show w.cell? _=_
 rw [show off+(i * P.cellsOf e+j)=off+i * P.cellsOf e+j by omega];exact this
theorem CellsAt.append {a b:List D} {x y:List Value} (h1:CellsAt w a x)(h2:CellsAt w b y):CellsAt w (a++b) (x++y):=by
 refine⟨by simp [h1.1,h2.1],fun i c v e1 e2=>?_⟩;by_cases hi:i<a.length
 .rw [bB hi] at e1;rw [bB (by have:=h1.1;omega)] at e2;exact h1.2 i c v e1 e2
 rw [bX (by omega)] at e1;rw [bX (by have:=h1.1;omega)] at e2;rw [<- h1.1] at e2;exact h2.2 _ c v e1 e2
def Qj(P:Program)(fs:List Field)(k n:Nat) {α:Type} (f:α->List D)(p:α->Prop):Prop:=
 ∀(H:Type) (enc:TypeId×Value->H) (w:World) (spare:Nat->Bool) (held:Bool) (fuel:Nat) (cs:List Value),cs.length=n->
  (∀fl∈fs,∃x:DataW H×List MemPlace,DataW.trod enc P w 0 spare held fuel fl.type ((cs.drop fl.offset).take (P.cellsOf fl.type))=some x)->∃a,p a/\CellsAt w (f a) (cs.drop k)
theorem vR :Qj P [] n n (fun _:Unit=> []) (fun _=>True):=by
 intro H enc w spare held fuel cs hn _;refine⟨(),trivial,?_,fun i c y h=>by simp at h⟩;rw [uE (by omega)];rfl
theorem eA {fl:Field} {fs:List Field} {k m:Nat} {β:Type} {f:α->D} {p:α->Prop} {g:β->List D} {q:β->Prop} (ho:fl.offset=k)(hc:P.cellsOf fl.type=m)(h1:Opens P fl.type f p)(h2:Qj P fs (k+m) n g q):
  Qj P (fl::fs) k n (fun ab:α×β=>(f ab.1).cells++g ab.2) (fun ab=>p ab.1/\q ab.2):=by
 intro H enc w spare held fuel cs hn hall;obtain⟨x,hx⟩:=hall fl (by simp);obtain⟨a,ha,hoa⟩:=h1 H enc w spare held fuel _ x hx;obtain⟨b,hb,hob⟩:=h2 H enc w spare held fuel cs hn (fun fl' h'=>hall fl' (by simp [h']));refine⟨(a,b),⟨ha,hb⟩,?_⟩;have e:cs.drop k=(cs.drop k).take m++cs.drop (k+m):=by
  rw [<- List.drop_drop];exact(eO m _).symm
 rw [e];rw [ho,hc] at hoa;exact hoa.1.append hob
theorem rU {fs:Array Field} {f:α->List D} {p:α->Prop} (ht:P.underlying t=some (.struct fs))(h:Qj P fs.toList 0 (P.cellsOf t) f p):Opens P t (fun a=> .agg (f a)) p:=by
 intro H enc w spare held fuel cs x hx;obtain⟨xs,n,_,_,hl,hxl,hall⟩:=DataW.trod_struct ht hx;obtain⟨a,ha,hc⟩:=h H enc w spare held n cs hl (fun fl hfl=>by
  obtain⟨i,hi⟩:=eR hfl;rw [dL] at hi;have h1:=hall i fl hi;have hi2:i<xs.length:=by rw [hxl];exact(dK.1 hi).1
  rw [aS hi2] at h1;exact⟨_,h1⟩)
 rw [xU] at hc;exact⟨a,ha,hc,by simp⟩
theorem Opens.map {β:Type} {f:α->D} {p:α->Prop} {g:β->D} {q:β->Prop} (h:Opens P t f p)(φ:α->β)(hφ:∀a,f a=g (φ a))(hq:∀a,p a->q (φ a)):Opens P t g q:=by
 intro H enc w spare held fuel cs x hx;obtain⟨a,ha,ho⟩:=h H enc w spare held fuel cs x hx;exact⟨φ a,hq a ha,by rw [<- hφ];exact ho⟩
theorem Lc {H:Type} {enc:TypeId×Value->H} {f:α->D} {p:α->Prop} {spare:Nat->Bool} {held:Bool} {v:Value} {d:DataW H} {ps:List MemPlace} (h:Opens P t f p)(hf:∀a,(f a).cells= [f a])(hv:v.oneCell'=true)(ht:DataW.Trod enc P w 0 spare held t v d ps):
  ∃a,p a/\R (zS w) [] (f a) v/\∀X h q,Own w (zS w) [] X h q (f a) v:=by
 obtain⟨fuel,hx⟩:=ht;obtain⟨a,ha,ho⟩:=h H enc w spare held fuel _ _ hx;rw [Value.cells_one hv] at ho;have:=ho.1.2 0 (f a) v (by rw [hf];rfl) rfl;exact⟨a,ha,this.1,fun X h q=> .flat q _ _ this.2.2⟩
theorem aSi {N:FuncId} {ds:List D} {vs:Array Value} {W:World} (hct:Ct P N ds [] (fun r _=>r= .bool true))(hl:vs.size=ds.length)
  (ha:∀(i:Nat) (d:D) (v:Value),ds[i]?=some d->vs[i]?=some v->R (zS W) [] d v/\∀X h q,Own W (zS W) [] X h q d v):
  Calls P N vs W fun e W'=>e= .returned (.bool true)/\Below W.heap.size W W':=by
 refine(hct.2 W ⟨zS W,fun _=>none, [], []⟩ vs hl rfl ⟨fun b o c h=>h,fun b t h=>by simp at h,fun t=>?_,rfl,fun n b cs h=>by simp at h,rfl,fun n b cs h=>by simp at h⟩).mono ?_
 .show SlotOk W _ t (fP ds t) (cG vs t)
  cases hd:ds[t]? with
  | none=>
   simp only [fP,hd];exact⟨.any _,.flat _ _ _ rfl⟩
  | some d=>
   have hlt:t<vs.size:=by rw [hl];exact(aN.1 hd).1
   have hv:vs[t]?=some vs[t]:=bM hlt;have hvv:cG vs t=vs[t]:=by simp [cG,hlt]
   rw [vW hd,hvv];obtain⟨h1,h2⟩:=ha t d _ hd hv;exact⟨h1,h2 _ _ _⟩
 rintro e W' ⟨r,σ',x,g',rfl,rfl,_,hf,hok⟩;have hs:=hok.slot 0;have hs':R g'.M g'.bs (.bool true) x:=hs.1;exact⟨by rw [hs'.vEq],hf.os,hf.tape,hf.output,hf.size,fun k hk=>(hf.keep k hk rfl).1⟩
end
end Go.Vm
