import Derived.Test.YtbgfljpnhhdkoaaGreatWkAr17
import Derived.Test.YtbgfljpnhhdkoaaGreatVmTab
import Derived.Test.YtbgfljpnhhdkoaaGreatVmZ
open Go.Proofs.Tryz
set_option maxHeartbeats 1000000
set_option linter.all false
namespace Go.Proofs.YtbgfljpnhhdkoaaGreat
open Go Go.Vm
set_option maxRecDepth 20000
set_option maxHeartbeats 8000000
theorem aHg(most:Int)(σ τ:List (List D))(hs:τ=σ++ [[],mX σ.length (d0 most (σ.length+2)),eG lM]):∃m M d rk,σ.length+1=m∧d.x=newX most∧IX 0 m M d rk (newX most) τ:=
 ⟨_,_,d0 most (σ.length+2),_,rfl,rfl,by rw [hs];exact aKv most σ,XP.refl (d:=newX most) (by simp [newX])⟩
theorem Xf {acts:List Act} (ha:∀a∈acts,a.name.size≤9223372036854775807∧a.value.size≤9223372036854775807) {k:Nat} (hk:k<acts.length):acts[k].name.size≤9223372036854775807∧acts[k].value.size≤9223372036854775807:=ha _ (List.getElem_mem hk)
set_option maxRecDepth 20000
set_option maxHeartbeats 8000000
structure TOp where
 kind:Int
 a:Int
 b:Int
 c:Int
 name:ByteArray
 value:ByteArray
 deriving DecidableEq
@[simp] abbrev jY(s:TOp):D:= .agg [.v (.int .i64 s.kind),.v (.int .i64 s.a),.v (.int .i64 s.b),.v (.int .i64 s.c),.v (.string s.name),.v (.string s.value)]
abbrev pP(m:Nat)(ops:List TOp):List D:= [.ref m 0,.sl true ((ops).map jY)]
def nt(l m:Nat)(ops:List TOp)(c:Int)(o:TOp)(σ:List (List D)):List (List D):=if c=0 then σ.set l (pP m (ops++ [o]))else σ
def La(ops:List TOp)(c:Int)(o:TOp):List TOp:=if c=0 then ops++ [o] else ops
theorem aHy {l m:Nat} {ops:List TOp} {c:Int} {o:TOp} {σ:List (List D)} (h:σ[l]?=some (pP m ops)):(nt l m ops c o σ)[l]?=some (pP m (La ops c o)):=by
 unfold nt La;split
 ·exact aI h _
 exact h
theorem aE5(ops:List TOp)(c:Int)(o:TOp):(La ops c o).length≤ops.length+1:=by
 unfold La;split <;> simp
theorem zO(l m:Nat)(ops:List TOp)(c:Int)(o:TOp)(σ:List (List D))(hq:σ[l]?=some (pP m ops))(hl:ops.length≤100000):Ct prog 151 [.ref l 0,D.int c,jY o] σ (fun r σ'=>r=D.int c∧σ'=nt l m ops c o σ):=by
 refine zf (rs:=[.tmp 6]) func151 ntmps151 results151 ?_;simp only [aN];refine zr ⟨[13],[5],[],[],[]⟩ fun _ _ Z=>?_;simp[hq,aI hq];apply Z;apply aC;refine zr ⟨[13],[5],[],[],[]⟩ fun _ _ Z=>?_;simp[hq,aI hq];apply Z;refine zi ?_;refine⟨fun c1=>?_,fun c1=>?_⟩
 ·try simp at c1
  refine ze ⟨[13],[5],[],[],[]⟩ [.op {},.op {},.op {},.op {},.op {rO:=true,wO:=true},.op {},.op {},.op {},.op {},.op {},.op {rO:=true,wO:=true}] fun all hall _ Z=>?_;refine jD 8 fun _ Y=>?_;simp[hq,aI hq];and_intros<;>(try omega);apply Y;simp[hq,aI hq];apply Z;apply aA;refine zk [1,6] ?_;refine zr ⟨[13],[5],[],[],[]⟩ fun _ _ Z=>?_;simp[hq,aI hq];apply Z;apply aB;simp [aL,nt,c1,pP]
 try simp at c1
 apply aE;apply aA;refine zr ⟨[13],[5],[],[],[]⟩ fun _ _ Z=>?_;simp[hq,aI hq];apply Z;apply aB;simp [aL,nt,c1,pP]
theorem Mn(l m:Nat)(ops:List TOp)(p at_ id:Int)(c:Int)(σ2:List (List D))(σ:List (List D))(hg:σ[l]?=some (pP m ops))(hc:Ct prog 136 [.ref m 0,D.int p,D.int at_,D.int id] σ (fun r τ=>r=D.int c∧τ=σ2))(h2:σ2[l]?=some (pP m ops))(hl:ops.length≤100000):Ct prog 64 [.ref l 0,D.int p,D.int at_,D.int id] σ (fun r σ'=>r=D.int c∧σ'=nt l m ops c ⟨3,p,at_,id,⟨#[]⟩,⟨#[]⟩⟩ σ2):=by
 refine zf (rs:=[.tmp 8]) func64 ntmps64 results64 ?_;simp only [aN];refine aY fun _ _ Z=>?_;simp[hg];apply Z;refine aY fun _ _ Z=>?_;refine zs 8 fun _ Y=>?_;simp[hg];apply Y;refine aD fun _ Y=>?_;simp[hg];refine cH (hc) ?_;apply Y;refine zs 4 fun _ Y=>?_;simp[hg];apply Y;refine aD fun _ Y=>?_;simp[hg];refine cH (zO l m ops c ⟨3,p,at_,id,⟨#[]⟩,⟨#[]⟩⟩ _ h2 hl) ?_;apply Y;simp[hg];apply Z;apply aB;simp [aL]
theorem Xu(l m:Nat)(ops:List TOp)(id at_:Int)(c:Int)(σ2:List (List D))(σ:List (List D))(hg:σ[l]?=some (pP m ops))(hc:Ct prog 138 [.ref m 0,D.int id,D.int at_] σ (fun r τ=>r=D.int c∧τ=σ2))(h2:σ2[l]?=some (pP m ops))(hl:ops.length≤100000):Ct prog 65 [.ref l 0,D.int id,D.int at_] σ (fun r σ'=>r=D.int c∧σ'=nt l m ops c ⟨4,id,at_,0,⟨#[]⟩,⟨#[]⟩⟩ σ2):=by
 refine zf (rs:=[.tmp 6]) func65 ntmps65 results65 ?_;simp only [aN];refine aY fun _ _ Z=>?_;simp[hg];apply Z;refine aY fun _ _ Z=>?_;refine zs 7 fun _ Y=>?_;simp[hg];apply Y;refine aD fun _ Y=>?_;simp[hg];refine cH (hc) ?_;apply Y;refine zs 3 fun _ Y=>?_;simp[hg];apply Y;refine aD fun _ Y=>?_;simp[hg];refine cH (zO l m ops c ⟨4,id,at_,0,⟨#[]⟩,⟨#[]⟩⟩ _ h2 hl) ?_;apply Y;simp[hg];apply Z;apply aB;simp [aL]
theorem Ot(l m:Nat)(ops:List TOp)(id:Int)(s:ByteArray)(c:Int)(σ2:List (List D))(σ:List (List D))(hg:σ[l]?=some (pP m ops))(hc:Ct prog 163 [.ref m 0,D.int id,D.str s] σ (fun r τ=>r=D.int c∧τ=σ2))(h2:σ2[l]?=some (pP m ops))(hl:ops.length≤100000):Ct prog 80 [.ref l 0,D.int id,D.str s] σ (fun r σ'=>r=D.int c∧σ'=nt l m ops c ⟨6,id,0,0,s,⟨#[]⟩⟩ σ2):=by
 refine zf (rs:=[.tmp 6]) func80 ntmps80 results80 ?_;simp only [aN];refine aY fun _ _ Z=>?_;simp[hg];apply Z;refine aY fun _ _ Z=>?_;refine zs 7 fun _ Y=>?_;simp[hg];apply Y;refine aD fun _ Y=>?_;simp[hg];refine cH (hc) ?_;apply Y;refine zs 3 fun _ Y=>?_;simp[hg];apply Y;refine aD fun _ Y=>?_;simp[hg];refine cH (zO l m ops c ⟨6,id,0,0,s,⟨#[]⟩⟩ _ h2 hl) ?_;apply Y;simp[hg];apply Z;apply aB;simp [aL]
theorem Rp(ops:List TOp)(σ:List (List D))(hl:ops.length≤100000):Ct prog 67 [.sl false (ops.map jY)] σ (fun r σ'=>r= .sl true (ops.map jY)∧σ'=σ):=by
 refine zf (rs:=[.tmp 2]) func67 ntmps67 results67 ?_;simp only [aN];refine zr ⟨[2],[],[],[],[]⟩ fun _ _ Z=>?_;simp;apply Z;apply aC;refine zr ⟨[2],[],[],[],[]⟩ fun _ _ Z=>?_;refine zs 1 fun _ Y=>?_;simp;apply Y;refine aD fun _ Y=>?_;simp;refine⟨Y _ ?_,fun e1=>Y _ ?_⟩
 ·skip
  simp only [dV];apply Z;refine bM (t:=false) (by simp) (fun h=>by cases h) (fun _=>?_);apply aE;apply aA;refine zr ⟨[2],[],[],[],[]⟩ fun _ _ Z=>?_;simp;and_intros<;>(try omega);apply Z;apply aB;simp [aL]
 skip
 simp only [dV];apply Z;refine bM (t:=true) (by simp) (fun _=>?_) (fun h=>by cases h);refine zr ⟨[2],[],[],[],[]⟩ fun _ _ Z=>?_;simp;apply Z;apply aB;apply aJ;simp [aL,e1]
theorem aBp(l m:Nat)(ops:List TOp)(σ:List (List D))(hl:ops.length≤100000)(hg:σ[l]?=some (pP m ops)):Ct prog 16 [.ref l 0] σ (fun r σ'=>r= .sl true (ops.map jY)∧σ'=σ):=by
 refine zf (rs:=[.tmp 2]) func16 ntmps16 results16 ?_;simp only [aN];refine zr ⟨[2],[],[],[],[]⟩ fun _ _ Z=>?_;simp[hg];apply Z;refine zr ⟨[2],[],[],[],[]⟩ fun _ _ Z=>?_;refine zs 4 fun _ Y=>?_;simp[hg];apply Y;refine aD fun _ Y=>?_;simp[hg];refine cH (Rp ops _ hl) ?_;apply Y;simp[hg];apply Z;apply aB;simp [aL]
theorem yC(l m:Nat)(ops:List TOp)(σ:List (List D))(hl:ops.length≤100000)(hg:σ[l]?=some (pP m ops)):Ct prog 16 [.ref l 0] σ (fun r σ'=>r= .sl false (ops.map jY)∧σ'=σ):=
 (aBp l m ops σ hl hg).strip fun r σ' ⟨hr,hs⟩=>⟨by rw [hr];rfl,by rw [hr];rfl,hs⟩
theorem Zb(m:Nat)(σ:List (List D))  :Ct prog 61 [.ref m 0] σ (fun r σ'=>r= .ref σ.length 0∧σ'=σ++ [pP m []]):=by
 refine zf (rs:=[.tmp 2]) func61 ntmps61 results61 ?_;simp only [aN];refine zr ⟨[],[],[5],[],[]⟩ fun _ _ Z=>?_;simp[aV,aP,aM,aH];apply Z;refine zr ⟨[],[],[5],[],[]⟩ fun _ _ Z=>?_;simp[aV,aP,aM,aH];and_intros<;>(try omega);apply Z;apply aB;simp [aL]
set_option maxRecDepth 20000
set_option maxHeartbeats 8000000
theorem aDv(x y:RD)(o:TOp)(n c:Int)(bel bel2:Int→List Int)(rk:Int→Nat)(σ:List (List D))(hx:NB x.l)(hnx:0≤x.next∧x.next≤1000000)(htr:Tr x.l bel rk)(htr2:Tr (remP x.l o.a) bel2 rk)(hkl:∀i,(aF x.l i).kids.length≤900)(hkn:∀i,(aF x.l i).kids.Nodup)(hsa:∀i,cJ nA (aF x.l i).attrs)(hss:∀i,cJ nP (aF x.l i).styles)(s1:o.name.size≤1000)(s2:o.value.size≤1000)(q1:(o.kind=1∨o.kind=2)→¬x.next=o.a→y=x∧c=1)(q2:o.kind=1→x.next=o.a→addX x 2 o.name=(y,n,c))(q3:o.kind=2→x.next=o.a→addX x 1 o.value=(y,n,c))(q4:o.kind=3→insX x bel o.a o.b o.c=(y,c))(q5:o.kind=4→movX x o.a o.b=(y,c))(q6:o.kind=5→remX x bel2 o.a=(y,c))(q7:o.kind<1∨13<o.kind→y=x∧c=14)(q8:6≤o.kind→o.kind≤13→setX x (o.kind - 6) o.a o.name o.value o.c=(y,c)):Ct prog 161 [eN x,jY o] σ (fun r σ'=>r= .tup [eN y,D.int c]∧σ'=σ):=by
 refine zf (rs:=[.cell 4 30,.tmp 5]) func161 ntmps161 results161 ?_;simp only [aN];refine zr ⟨[],[2,3],[],[],[]⟩ fun _ _ Z=>?_;simp;apply Z;apply aC;refine zr ⟨[],[2,3],[],[],[]⟩ fun _ _ Z=>?_;simp;apply Z;apply aG;apply aC;refine zr ⟨[],[2,3],[],[],[]⟩ fun _ _ Z=>?_;simp;apply Z;refine zi ?_;refine⟨fun c1=>?_,fun c1=>?_⟩
 ·try simp at c1
  apply aE;apply aA;refine bM (t:=true) (by simp) (fun _=>?_) (fun h=>by cases h);apply aC;refine zr ⟨[],[2,3],[],[],[]⟩ fun _ _ Z=>?_;simp;apply Z;refine zi ?_;refine⟨fun c2=>?_,fun c2=>?_⟩
  ·try simp at c2
   refine zk [2,3,4,5] ?_;refine zr ⟨[],[2,3],[],[],[]⟩ fun _ _ Z=>?_;simp;apply Z;apply aB;apply aJ;apply aQ;apply aJ;obtain⟨r1,r2⟩:=q1 (by omega) (by omega);subst r1;subst r2;simp [aL]
  try simp at c2
  apply aE;apply aA;refine zk [2,3,4,5] ?_;refine zr ⟨[],[2,3],[],[],[]⟩ fun _ _ Z=>?_;simp;apply Z;apply aC;refine zr ⟨[],[2,3],[],[],[]⟩ fun _ _ Z=>?_;simp;apply Z;refine zi ?_;refine⟨fun c3=>?_,fun c3=>?_⟩
  ·try simp at c3
   omega
  try simp at c3
  apply aE;apply aA;refine zk [2,3,4,5,6] ?_;refine zr ⟨[],[2,3],[],[],[]⟩ fun _ _ Z=>?_;refine zs 5 fun _ Y=>?_;simp;and_intros<;>(try omega);apply Y;refine aD fun _ Y=>?_;simp;refine cH (yJ x (3 - o.kind) o.name _ hx hnx s1) ?_;rw [show(3 - o.kind:Int)=2 by omega,q2 (by omega) (by omega)];apply Y;simp;apply Z;refine zk [2,3,4,5,7,9] ?_;refine zr ⟨[],[2,3],[],[],[]⟩ fun _ _ Z=>?_;simp;apply Z;apply aB;apply aQ;apply aJ;simp [aL]
 try simp at c1
 refine zt ⟨[],[2,3],[],[],[]⟩ fun _ _ Z=>?_;simp;apply Z;apply aA;refine zi ?_;refine⟨fun c4=>?_,fun c4=>?_⟩
 ·try simp at c4
  apply aC;refine zr ⟨[],[2,3],[],[],[]⟩ fun _ _ Z=>?_;simp;apply Z;refine zi ?_;refine⟨fun c5=>?_,fun c5=>?_⟩
  ·try simp at c5
   refine zk [2,3,4,5] ?_;refine zr ⟨[],[2,3],[],[],[]⟩ fun _ _ Z=>?_;simp;apply Z;apply aB;apply aJ;apply aQ;apply aJ;obtain⟨r1,r2⟩:=q1 (by omega) (by omega);subst r1;subst r2;simp [aL]
  try simp at c5
  apply aE;apply aA;refine zk [2,3,4,5] ?_;refine zr ⟨[],[2,3],[],[],[]⟩ fun _ _ Z=>?_;simp;apply Z;apply aC;refine zr ⟨[],[2,3],[],[],[]⟩ fun _ _ Z=>?_;simp;apply Z;refine zi ?_;refine⟨fun c6=>?_,fun c6=>?_⟩
  ·try simp at c6
   refine zt ⟨[],[2,3],[],[],[]⟩ fun _ _ Z=>?_;simp;apply Z;apply aA;refine zk [2,3,4,5,6] ?_;refine zr ⟨[],[2,3],[],[],[]⟩ fun _ _ Z=>?_;refine zs 5 fun _ Y=>?_;simp;and_intros<;>(try omega);apply Y;refine aD fun _ Y=>?_;simp;refine cH (yJ x (3 - o.kind) o.value _ hx hnx s2) ?_;rw [show(3 - o.kind:Int)=1 by omega,q3 (by omega) (by omega)];apply Y;simp;apply Z;refine zk [2,3,4,5,7,9] ?_;refine zr ⟨[],[2,3],[],[],[]⟩ fun _ _ Z=>?_;simp;apply Z;apply aB;apply aQ;apply aJ;simp [aL]
  try simp at c6
  omega
 try simp at c4
 refine zr ⟨[],[2,3],[],[],[]⟩ fun _ _ Z=>?_;simp;apply Z;refine zi ?_;refine⟨fun c7=>?_,fun c7=>?_⟩
 ·try simp at c7
  refine zk [2,3,4,5] ?_;refine zr ⟨[],[2,3],[],[],[]⟩ fun _ _ Z=>?_;refine zs 7 fun _ Y=>?_;simp;apply Y;refine aD fun _ Y=>?_;simp;refine cH (Qr x o.a o.b o.c bel rk _ hx htr (hkl _)) ?_;rw [q4 (by omega)];apply Y;simp;apply Z;apply aB;apply aQ;apply aJ;simp [aL]
 try simp at c7
 refine zk [2,3,4,5,11] ?_;refine zr ⟨[],[2,3],[],[],[]⟩ fun _ _ Z=>?_;simp;apply Z;refine zi ?_;refine⟨fun c8=>?_,fun c8=>?_⟩
 ·try simp at c8
  refine zr ⟨[],[2,3],[],[],[]⟩ fun _ _ Z=>?_;refine zs 5 fun _ Y=>?_;simp;apply Y;refine aD fun _ Y=>?_;simp;refine cH (Qo x o.a o.b _ hx (hkn _)) ?_;rw [q5 (by omega)];apply Y;simp;apply Z;apply aB;apply aQ;apply aJ;simp [aL]
 try simp at c8
 refine zr ⟨[],[2,3],[],[],[]⟩ fun _ _ Z=>?_;simp;apply Z;refine zi ?_;refine⟨fun c9=>?_,fun c9=>?_⟩
 ·try simp at c9
  refine zr ⟨[],[2,3],[],[],[]⟩ fun _ _ Z=>?_;refine zs 3 fun _ Y=>?_;simp;apply Y;refine aD fun _ Y=>?_;simp;refine cH (Pq x o.a bel2 rk _ hx htr2) ?_;rw [q6 (by omega)];apply Y;simp;apply Z;apply aB;apply aQ;apply aJ;simp [aL]
 try simp at c9
 apply aE;apply aK;apply aA;apply aC;refine mY ⟨[],[2,3],[],[],[]⟩ fun all hall _ Z=>?_;have ga3:aR all 3=some 73:=hall 3;refine zs 4 fun _ Y=>?_;simp[ga3];apply Y;refine aU 73 (by simp <;> rfl) ?_;refine⟨fun g10=>?_,fun g10=>?_⟩
 ·try simp at g10
  simp[ga3];apply Z;refine bM (t:=true) (by simp) (fun _=>?_) (fun h=>by cases h);refine zk [2,3,4,5] ?_;refine zr ⟨[],[2,3],[],[],[]⟩ fun _ _ Z=>?_;simp;apply Z;apply aB;apply aJ;obtain⟨r1,r2⟩:=q7 (by omega);subst r1;subst r2;simp [aL]
 try simp at g10
 simp[ga3];apply Z;refine zi ?_;refine⟨fun c11=>?_,fun c11=>?_⟩
 ·try simp at c11
  refine zk [2,3,4,5] ?_;refine zr ⟨[],[2,3],[],[],[]⟩ fun _ _ Z=>?_;simp;apply Z;apply aB;apply aJ;obtain⟨r1,r2⟩:=q7 (by omega);subst r1;subst r2;simp [aL]
 try simp at c11
 apply aE;apply aA;refine zk [2,3,4,5] ?_;refine zr ⟨[],[2,3],[],[],[]⟩ fun _ _ Z=>?_;refine zs 8 fun _ Y=>?_;simp;and_intros<;>(try omega);apply Y;refine zs 4 fun _ Y=>?_;simp;apply Y;refine aD fun _ Y=>?_;simp;refine cH (Pb x (o.kind - 6) o.a o.name o.value o.c _ hx s1 (hsa _) (hss _)) ?_;rw [q8 (by omega) (by omega)];apply Y;simp;apply Z;apply aB;simp [aL]
structure LX(k m M l:Nat)(d:DS)(rk:Int→Nat)(x:RD)(ops:List TOp)(σ:List (List D)):Prop where
 ix:IX k m M d rk x σ
 off:Off m d l
 at_:σ[l]?=some (pP m ops)
 len:ops.length≤k
variable {k m M l:Nat} {d d':DS} {rk rk':Int→Nat} {σ σ2:List (List D)} {x y:RD} {ops:List TOp}
theorem LX.step(h:LX k m M l d rk x ops σ)(hi:IX (k+1) m M d' rk' y σ2)(fr:FrO m d d' σ σ2):σ2[l]?=some (pP m ops)∧∀c o,LX (k+1) m M l d' rk' y (La ops c o) (nt l m ops c o σ2):=by
 obtain⟨o1,o2⟩:=h.off.step (kH h.at_) fr;rw [h.at_] at o2;refine⟨o2,fun c o=>⟨?_,o1,aHy o2,by have:=aE5 ops c o;have:=h.len;omega⟩⟩;unfold nt;split
 ·exact hi.put o1 _
 exact hi
theorem LX.keep(h:LX k m M l d rk x ops σ):LX (k+1) m M l d rk x ops σ:=⟨h.ix.mono,h.off,h.at_,by have:=h.len;omega⟩
def Oth(m:Nat)(L:Nat→Prop)(d d':DS)(σ σ':List (List D)):Prop:=σ.length≤σ'.length∧∀i,i<σ.length→Off m d i→¬L i→Off m d' i∧σ'[i]?=σ[i]?
theorem FrO.othN(fr:FrO m d d' σ σ2)(l:Nat)(ops:List TOp)(c:Int)(o:TOp):Oth m (· =l) d d' σ (nt l m ops c o σ2):=by
 refine⟨?_,fun i hi ho hl=>?_⟩
 ·unfold nt;split
  ·rw [List.length_set];exact fr.len
  exact fr.len
 obtain⟨h1,h2⟩:=ho.step hi fr;refine⟨h1,?_⟩;unfold nt;split
 ·rw [List.getElem?_set_ne (fun e=>hl e.symm)];exact h2
 exact h2
theorem Oth.refl(m:Nat)(L:Nat→Prop)(d:DS)(σ:List (List D)):Oth m L d d σ σ:=⟨Nat.le_refl _,fun _ _ h _=>⟨h,rfl⟩⟩
theorem Oth.trans {L:Nat→Prop} {d1 d2 d3:DS} {s1 s2 s3:List (List D)} (h:Oth m L d1 d2 s1 s2)(g:Oth m L d2 d3 s2 s3):Oth m L d1 d3 s1 s3:=
 ⟨Nat.le_trans h.1 g.1,fun i hi ho hl=>by
  obtain⟨a,b⟩:=h.2 i hi ho hl;obtain⟨a',b'⟩:=g.2 i (by have:=h.1;omega) a hl;exact⟨a',by rw [b',b]⟩⟩
def zT(l:List ND)(b:Int→List Int):Prop:=∃rk,Dec l rk∧b=bN l rk
def aNs(x:RD)(b b2:Int→List Int)(o:TOp)(y:RD)(n c:Int):Prop:=((o.kind=1∨o.kind=2)→¬x.next=o.a→y=x∧c=1)∧(o.kind=1→x.next=o.a→addX x 2 o.name=(y,n,c))∧(o.kind=2→x.next=o.a→addX x 1 o.value=(y,n,c))∧(o.kind=3→insX x b o.a o.b o.c=(y,c))∧(o.kind=4→movX x o.a o.b=(y,c))∧
  (o.kind=5→remX x b2 o.a=(y,c))∧(o.kind<1∨13<o.kind→y=x∧c=14)∧(6≤o.kind→o.kind≤13→setX x (o.kind - 6) o.a o.name o.value o.c=(y,c))
def Doc(x:RD)(o:TOp)(y:RD)(c:Int):Prop:=∃b b2 n,zT x.l b∧zT (remP x.l o.a) b2∧aNs x b b2 o y n c
theorem Fm(h:IX k m M d rk x σ)(hk:k≤800)(o:TOp)(s1:o.name.size≤1000)(s2:o.value.size≤1000)(y:RD)(n c:Int):
  (q1:(o.kind=1∨o.kind=2)→¬x.next=o.a→y=x∧c=1)→(q2:o.kind=1→x.next=o.a→addX x 2 o.name=(y,n,c))→(q3:o.kind=2→x.next=o.a→addX x 1 o.value=(y,n,c))→(q4:o.kind=3→insX x (bN d.l rk) o.a o.b o.c=(y,c))→(q5:o.kind=4→movX x o.a o.b=(y,c))→
  (q6:o.kind=5→remX x (bN (remP d.l o.a) rk) o.a=(y,c))→(q7:o.kind<1∨13<o.kind→y=x∧c=14)→(q8:6≤o.kind→o.kind≤13→setX x (o.kind - 6) o.a o.name o.value o.c=(y,c))→Doc x o y c∧∀τ,Ct prog 161 [eN x,jY o] τ (fun r τ'=>r= .tup [eN y,D.int c]∧τ'=τ):=by
 obtain⟨hi,hx⟩:=h;obtain⟨b1,b2,b3⟩:=hi.bounds (by omega);have hnb:NB x.l:=hx.nb (hi.ip.NB (by omega));have htr:Tr d.l (bN d.l rk) rk:=hi.wt.Tr (by have:=hi.ip.len;rw [sA];omega);have htr1:Tr x.l (bN d.l rk) rk:=htr.perm hx.fd;have htr2:Tr (remP x.l o.a) (bN (remP d.l o.a) rk) rk:=(Nm hi.wt (by have:=hi.ip.len;rw [sA];omega) _).perm (jL (hx.remP _) (by rw [mM];exact hx.nd));have hnx:0≤x.next∧x.next≤1000000:=by rw [hx.next];exact b3
 have hD1:Dec d.l rk:=hi.wt.Dec;have e1:bN d.l rk=bN x.l rk:=(nJ hx.fd rk).symm;have e2:bN (remP d.l o.a) rk=bN (remP x.l o.a) rk:=(nJ (jL (hx.remP _) (by rw [mM];exact hx.nd)) rk).symm;exact fun q1 q2 q3 q4 q5 q6 q7 q8=>⟨⟨_,_,n,⟨rk,fun i k hk=>by rw [hx.fd] at hk;exact hD1 i k hk,e1⟩,⟨rk,fun i k hk=>by rw [jL (hx.remP _) (by rw [mM];exact hx.nd)] at hk;exact Dec.rem hi.wt o.a i k hk,e2⟩,q1,q2,q3,q4,q5,q6,q7,q8⟩,fun τ=>aDv x y o n c (bN d.l rk) (bN (remP d.l o.a) rk) rk τ hnb hnx htr1 htr2 (fun i=>by rw [hx.fd];exact aC2 hi hk i) (fun i=>by rw [hx.fd];exact aCq hi i) (fun i=>by rw [hx.fd];exact aG5 hi i) (fun i=>by rw [hx.fd];exact aGy hi i) s1 s2 q1 q2 q3 q4 q5 q6 q7 q8⟩
theorem aH2(h:LX k m M l d rk x ops σ)(hk:k≤800)(p a i:Int):∃d' rk' y c σ',Ct prog 64 [.ref l 0,D.int p,D.int a,D.int i] σ (fun r τ=>r=D.int c∧τ=σ')∧LX (k+1) m M l d' rk' y (La ops c ⟨3,p,a,i,⟨#[]⟩,⟨#[]⟩⟩) σ'∧Doc x ⟨3,p,a,i,⟨#[]⟩,⟨#[]⟩⟩ y c∧(∀τ,Ct prog 161 [eN x,jY ⟨3,p,a,i,⟨#[]⟩,⟨#[]⟩⟩] τ (fun r τ'=>r= .tup [eN y,D.int c]∧τ'=τ))∧Oth m (· =l) d d' σ σ':=by
 have hh:=h;obtain⟨⟨hi,hx⟩,hoff,hat,hlen⟩:=h;have hl:ops.length≤100000:=by omega
 have e0:(⟨#[]⟩:ByteArray).size≤1000:=by decide
 obtain⟨d',rk',σ',hc,hi',e,fr⟩:=aCa k m M d rk p a i σ hi hk;obtain⟨p1,p2⟩:=hx.insX (bN d.l rk) p a i;obtain⟨o2,st⟩:=hh.step ⟨hi',by rw [e];exact p2⟩ fr;obtain⟨r1,r2⟩:=Fm ⟨hi,hx⟩ hk ⟨3,p,a,i,⟨#[]⟩,⟨#[]⟩⟩ e0 e0 _ 0 _ (fun q _=>by simp at q) (fun q _=>by simp at q) (fun q _=>by simp at q) (fun _=>lT p1) (fun q=>by simp at q) (fun q=>by simp at q) (fun q=>by simp at q) (fun q=>by simp at q);exact⟨d',rk',_,_,_,Mn l m ops p a i _ σ' σ hat hc o2 hl,st _ _,r1,r2,fr.othN l ops _ _⟩
theorem aJc(h:LX k m M l d rk x ops σ)(hk:k≤800)(i a:Int):∃d' rk' y c σ',Ct prog 65 [.ref l 0,D.int i,D.int a] σ (fun r τ=>r=D.int c∧τ=σ')∧LX (k+1) m M l d' rk' y (La ops c ⟨4,i,a,0,⟨#[]⟩,⟨#[]⟩⟩) σ'∧Doc x ⟨4,i,a,0,⟨#[]⟩,⟨#[]⟩⟩ y c∧(∀τ,Ct prog 161 [eN x,jY ⟨4,i,a,0,⟨#[]⟩,⟨#[]⟩⟩] τ (fun r τ'=>r= .tup [eN y,D.int c]∧τ'=τ))∧Oth m (· =l) d d' σ σ':=by
 have hh:=h;obtain⟨⟨hi,hx⟩,hoff,hat,hlen⟩:=h;have hl:ops.length≤100000:=by omega
 have e0:(⟨#[]⟩:ByteArray).size≤1000:=by decide
 obtain⟨d',rk',σ',hc,hi',e,fr⟩:=Wu k m M d rk i a σ hi hk;obtain⟨p1,p2⟩:=hx.movX i a;obtain⟨o2,st⟩:=hh.step ⟨hi',by rw [e];exact p2⟩ fr;obtain⟨r1,r2⟩:=Fm ⟨hi,hx⟩ hk ⟨4,i,a,0,⟨#[]⟩,⟨#[]⟩⟩ e0 e0 _ 0 _ (fun q _=>by simp at q) (fun q _=>by simp at q) (fun q _=>by simp at q) (fun q=>by simp at q) (fun _=>lT p1) (fun q=>by simp at q) (fun q=>by simp at q) (fun q=>by simp at q);exact⟨d',rk',_,_,_,Xu l m ops i a _ σ' σ hat hc o2 hl,st _ _,r1,r2,fr.othN l ops _ _⟩
theorem aHi(h:LX k m M l d rk x ops σ)(hk:k≤800)(i:Int)(s:ByteArray)(hs:s.size≤1000):∃d' rk' y c σ',Ct prog 80 [.ref l 0,D.int i,D.str s] σ (fun r τ=>r=D.int c∧τ=σ')∧LX (k+1) m M l d' rk' y (La ops c ⟨6,i,0,0,s,⟨#[]⟩⟩) σ'∧Doc x ⟨6,i,0,0,s,⟨#[]⟩⟩ y c∧(∀τ,Ct prog 161 [eN x,jY ⟨6,i,0,0,s,⟨#[]⟩⟩] τ (fun r τ'=>r= .tup [eN y,D.int c]∧τ'=τ))∧Oth m (· =l) d d' σ σ':=by
 have hh:=h;obtain⟨⟨hi,hx⟩,hoff,hat,hlen⟩:=h;have hl:ops.length≤100000:=by omega
 have e0:(⟨#[]⟩:ByteArray).size≤1000:=by decide
 obtain⟨d',rk',σ',hc,hi',e,fr⟩:=Qa k m M d rk σ i s ⟨#[]⟩ 0 hi hk hs;obtain⟨p1,p2⟩:=hx.setX 0 i s ⟨#[]⟩ 0;obtain⟨o2,st⟩:=hh.step ⟨hi',by rw [e];exact p2⟩ fr;obtain⟨r1,r2⟩:=Fm ⟨hi,hx⟩ hk ⟨6,i,0,0,s,⟨#[]⟩⟩ hs e0 _ 0 _ (fun q _=>by simp at q) (fun q _=>by simp at q) (fun q _=>by simp at q) (fun q=>by simp at q) (fun q=>by simp at q) (fun q=>by simp at q) (fun q=>by simp at q) (fun _ _=>lT p1);exact⟨d',rk',_,_,_,Ot l m ops i s _ σ' σ hat hc o2 hl,st _ _,r1,r2,fr.othN l ops _ _⟩
def RPath:RD→List TOp→RD→Prop
 | x, [],y=>y=x
 | x,o::r,z=>∃y,(∀τ,Ct prog 161 [eN x,jY o] τ (fun r τ'=>r= .tup [eN y,D.int 0]∧τ'=τ))∧RPath y r z
theorem RPath.snoc {o:TOp} {z y:RD} :∀ {ops:List TOp} {x:RD},RPath x ops y→(∀τ,Ct prog 161 [eN y,jY o] τ (fun r τ'=>r= .tup [eN z,D.int 0]∧τ'=τ))→RPath x (ops++ [o]) z
 | [],x,h,ho=>by have e:y=x:=h;subst e;exact⟨z,ho,rfl⟩
 | p::r,x,⟨w,hw,h⟩,ho=>⟨w,hw,RPath.snoc h ho⟩
theorem RPath.xs:∀ {ops:List TOp} {x y:RD},RPath x ops y→∃xs:Nat→RD,xs 0=x∧xs ops.length=y∧∀i (h:i<ops.length),∀τ,Ct prog 161 [eN (xs i),jY ops[i]] τ (fun r τ'=>r= .tup [eN (xs (i+1)),D.int 0]∧τ'=τ)
 | [],x,y,h=>⟨fun _=>x,rfl,Eq.symm h,fun i h=>by simp at h⟩
 | o::r,x,y,⟨w,hw,h⟩=>by
  obtain⟨xs,h1,h2,h3⟩:=RPath.xs h;refine⟨fun i=>match i with | 0=>x | i+1=>xs i,rfl,h2,fun i hi=>?_⟩
  match i with
  | 0=>show ∀τ,Ct _ _ [eN x,jY o] τ (fun r τ'=>r= .tup [eN (xs 0),D.int 0]∧τ'=τ);rw [h1];exact hw
  | i+1=>exact h3 i (by simpa using hi)
end Go.Proofs.YtbgfljpnhhdkoaaGreat
namespace Go.Proofs.YtbgfljpnhhdkoaaGreat
open Go Go.Vm
variable {k m M l:Nat} {d d':DS} {rk rk':Int→Nat} {σ σ2:List (List D)} {x y:RD} {ops:List TOp}
inductive DoS(a:Act)(x:RD):RD→Prop
 | el (q:(bX a).kind=0):DoS a x (addX x 2 (bX a).name).1
 | tx (q:(bX a).kind=1):DoS a x (addX x 1 (bX a).value).1
 | ins (b:Int→List Int) (q:(bX a).kind=2) (hb:zT x.l b):DoS a x (insX x b (bX a).a (bX a).b (bX a).c).1
 | mov (q:(bX a).kind=3):DoS a x (movX x (bX a).a (bX a).b).1
 | rem (b:Int→List Int) (q:(bX a).kind=4) (hb:zT (remP x.l (bX a).a) b):DoS a x (remX x b (bX a).a).1
 | set (q:10≤(bX a).kind∧(bX a).kind≤17):DoS a x (setX x ((bX a).kind - 10) (bX a).a (bX a).name (bX a).value (bX a).c).1
 | no (q0:¬(bX a).kind=0) (q1:¬(bX a).kind=1) (q2:¬(bX a).kind=2) (q3:¬(bX a).kind=3) (q4:¬(bX a).kind=4) (q5:¬(10≤(bX a).kind∧(bX a).kind≤17)):DoS a x x
theorem aGi(a:Act)(h:IX k m M d rk x σ)(hk:k≤800)(h1:a.name.size≤9223372036854775807)(h2:a.value.size≤9223372036854775807):
  ∃d' rk' σ' y,Ct prog 60 [.ref m 0,eN x,nQ a] σ (fun r τ=>r= .tup [eN y,.bool true]∧τ=σ')∧IX (k+1) m M d' rk' y σ'∧Nx d.x d'.x∧FrO m d d' σ σ'∧DoS a x y:=by
 have hh:=h;obtain⟨hi,hx⟩:=h;obtain⟨t1,t2⟩:=Iu a;obtain⟨b1,b2,b3⟩:=hi.bounds (by omega);have hnb:NB x.l:=hx.nb (hi.ip.NB (by omega));have htr:Tr d.l (bN d.l rk) rk:=hi.wt.Tr (by have:=hi.ip.len;rw [sA];omega);have htr1:Tr x.l (bN d.l rk) rk:=htr.perm hx.fd;have htr2:Tr (remP x.l (bX a).a) (bN (remP d.l (bX a).a) rk) rk:=(Nm hi.wt (by have:=hi.ip.len;rw [sA];omega) _).perm (jL (hx.remP _) (by rw [mM];exact hx.nd));have hnx:0≤x.next∧x.next≤1000000:=by rw [hx.next];exact b3
 have hkl:∀i,(aF x.l i).kids.length≤900:=fun i=>by rw [hx.fd];exact aC2 hi hk i
 have hkn:∀i,(aF x.l i).kids.Nodup:=fun i=>by rw [hx.fd];exact aCq hi i
 have hsa:∀i,cJ nA (aF x.l i).attrs:=fun i=>by rw [hx.fd];exact aG5 hi i
 have hss:∀i,cJ nP (aF x.l i).styles:=fun i=>by rw [hx.fd];exact aGy hi i
 have hD1:zT x.l (bN d.l rk):=⟨rk,fun i k hk=>by rw [hx.fd] at hk;exact hi.wt.Dec i k hk,(nJ hx.fd rk).symm⟩;have hD2:zT (remP x.l (bX a).a) (bN (remP d.l (bX a).a) rk):=⟨rk,fun i k hk=>by rw [jL (hx.remP _) (by rw [mM];exact hx.nd)] at hk;exact Dec.rem hi.wt (bX a).a i k hk,(nJ (jL (hx.remP _) (by rw [mM];exact hx.nd)) rk).symm⟩;have W:=fun(y:RD) (n c:Int) (σ2:List (List D))=>aJn m x y n c a (bN d.l rk) (bN (remP d.l (bX a).a) rk) rk σ2 σ hnb hnx htr1 htr2 hkl hkn hsa hss;by_cases q0:(bX a).kind=0
 ·obtain⟨d',rk',σ',hc,hi',e,fr⟩:=aHr k m M d rk (bX a).name σ hi hk (by omega);obtain⟨p1,p2⟩:=hx.addX hi.ip.lt 2 (bX a).name;exact⟨d',rk',σ',_,W _ _ _ σ' (fun _=>⟨hc,lT p1⟩) (fun q=>by omega) (fun q=>by omega) (fun q=>by omega) (fun q=>by omega) (fun q=>by omega) (fun q=>by omega) h1 h2,⟨hi',by rw [e];exact p2⟩,by rw [e];exact Pj _ _ _,fr,.el q0⟩
 by_cases q1:(bX a).kind=1
 ·obtain⟨d',rk',σ',hc,hi',e,fr⟩:=aJj k m M d rk (bX a).value σ hi hk;obtain⟨p1,p2⟩:=hx.addX hi.ip.lt 1 (bX a).value;exact⟨d',rk',σ',_,W _ _ _ σ' (fun q=>by omega) (fun _=>⟨hc,lT p1⟩) (fun q=>by omega) (fun q=>by omega) (fun q=>by omega) (fun q=>by omega) (fun q=>by omega) h1 h2,⟨hi',by rw [e];exact p2⟩,by rw [e];exact Pj _ _ _,fr,.tx q1⟩
 by_cases q2:(bX a).kind=2
 ·obtain⟨d',rk',σ',hc,hi',e,fr⟩:=aCa k m M d rk (bX a).a (bX a).b (bX a).c σ hi hk;obtain⟨p1,p2⟩:=hx.insX (bN d.l rk) (bX a).a (bX a).b (bX a).c;exact⟨d',rk',σ',_,W _ 0 _ σ' (fun q=>by omega) (fun q=>by omega) (fun _=>⟨hc,lT p1⟩) (fun q=>by omega) (fun q=>by omega) (fun q=>by omega) (fun q=>by omega) h1 h2,⟨hi',by rw [e];exact p2⟩,by rw [e];exact aE2 _ _ _ _ _,fr,.ins _ q2 hD1⟩
 by_cases q3:(bX a).kind=3
 ·obtain⟨d',rk',σ',hc,hi',e,fr⟩:=Wu k m M d rk (bX a).a (bX a).b σ hi hk;obtain⟨p1,p2⟩:=hx.movX (bX a).a (bX a).b;exact⟨d',rk',σ',_,W _ 0 _ σ' (fun q=>by omega) (fun q=>by omega) (fun q=>by omega) (fun _=>⟨hc,lT p1⟩) (fun q=>by omega) (fun q=>by omega) (fun q=>by omega) h1 h2,⟨hi',by rw [e];exact p2⟩,by rw [e];exact aFo _ _ _,fr,.mov q3⟩
 by_cases q4:(bX a).kind=4
 ·obtain⟨d',rk',σ',hc,hi',e,fr⟩:=aHl k m M d rk (bX a).a σ hi hk;obtain⟨p1,p2⟩:=hx.remX (bN (remP d.l (bX a).a) rk) (bX a).a;exact⟨d',rk',σ',_,W _ 0 _ σ' (fun q=>by omega) (fun q=>by omega) (fun q=>by omega) (fun q=>by omega) (fun _=>⟨hc,lT p1⟩) (fun q=>by omega) (fun q=>by omega) h1 h2,⟨hi',by rw [e];exact p2⟩,by rw [e];exact aE8 _ _ _,fr,.rem _ q4 hD2⟩
 by_cases q5:10≤(bX a).kind∧(bX a).kind≤17
 ·obtain⟨d',rk',σ',hc,hi',e,fr⟩:=Mi (bX a) hi hk (by omega) q5;obtain⟨p1,p2⟩:=hx.setX ((bX a).kind - 10) (bX a).a (bX a).name (bX a).value (bX a).c;exact⟨d',rk',σ',_,W _ 0 _ σ' (fun q=>by omega) (fun q=>by omega) (fun q=>by omega) (fun q=>by omega) (fun q=>by omega) (fun _=>⟨hc,lT p1⟩) (fun q=>by omega) h1 h2,⟨hi',by rw [e];exact p2⟩,by rw [e];exact aEa _ _ _ _ _ _,fr,.set q5⟩
 exact⟨d,rk,σ,x,W x 0 0 σ (fun q=>by omega) (fun q=>by omega) (fun q=>by omega) (fun q=>by omega) (fun q=>by omega) (fun q=>by omega) (fun _=>⟨rfl,rfl⟩) h1 h2,⟨hi.mono,hx⟩,Nx.refl _,FrO.refl _ _ _,.no q0 q1 q2 q3 q4 q5⟩
theorem LX.on {k m M:Nat} {d:DS} {rk:Int→Nat} {x:RD} {σ:List (List D)} (h:IX k m M d rk x σ):LX k m M σ.length d rk x [] (σ++ [pP m []]):=
 ⟨h.app _,h.off (Nat.le_refl _),by simp,Nat.zero_le _⟩
end Go.Proofs.YtbgfljpnhhdkoaaGreat
namespace Go.Proofs.YtbgfljpnhhdkoaaGreat
open Go Go.Vm
set_option maxRecDepth 20000
set_option maxHeartbeats 8000000
structure ST where
 kind:Int
 ID:Int
 at_:Int
 deriving DecidableEq
@[simp] abbrev Un(s:ST):D:= .agg [.v (.int .i64 s.kind),.v (.int .i64 s.ID),.v (.int .i64 s.at_)]
end Go.Proofs.YtbgfljpnhhdkoaaGreat
