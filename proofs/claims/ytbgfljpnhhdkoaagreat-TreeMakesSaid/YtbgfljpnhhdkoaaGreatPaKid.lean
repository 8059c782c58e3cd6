import Derived.Test.YtbgfljpnhhdkoaaGreatWkAr16
import Derived.Test.YtbgfljpnhhdkoaaGreatWkWv4
set_option maxHeartbeats 8000000
set_option linter.all false
set_option maxRecDepth 20000
open Go.Proofs.Tryz
namespace Go.Proofs.YtbgfljpnhhdkoaaGreat
open Go Go.Vm
variable {k m M:Nat} {d:DS} {rk:Int->Nat} {σ:List (List D)} {x:RD}
theorem oI {α β:Type} {p:α×β} {c:β} (h:p.2=c):p=(p.1,c):=by rw [<- h]
theorem aT8(most:Int)(σ τ:List (List D))(hs:τ=σ++ [[],At σ.length (d0 most (σ.length+2)),jU oA]):∃m M d rk,σ.length+1=m/\d.x=newX most/\IX 0 m M d rk (newX most) τ:=
 ⟨_,_,d0 most (σ.length+2),_,rfl,rfl,by rw [hs];exact aXl most σ,XP.refl (d:=newX most) (by simp [newX])⟩
structure TOp where
 kind:Int
 a:Int
 b:Int
 c:Int
 name:ByteArray
 value:ByteArray
 deriving DecidableEq
@[simp] abbrev uE(s:TOp):D:= .agg [.v (.int .i64 s.kind),.v (.int .i64 s.a),.v (.int .i64 s.b),.v (.int .i64 s.c),.v (.string s.name),.v (.string s.value)]
abbrev pC(m:Nat)(ops:List TOp):List D:= [.ref m 0,.sl true ((ops).map uE)]
def nt(l m:Nat)(ops:List TOp)(c:Int)(o:TOp)(σ:List (List D)):List (List D):=if c=0 then σ.set l (pC m (ops++ [o]))else σ
def nto(ops:List TOp)(c:Int)(o:TOp):List TOp:=if c=0 then ops++ [o] else ops
theorem aUp {l m:Nat} {ops:List TOp} {c:Int} {o:TOp} {σ:List (List D)} (h:σ[l]?=some (pC m ops)):(nt l m ops c o σ)[l]?=some (pC m (nto ops c o)):=by
 unfold nt nto;split
 .exact aM h _
 exact h
theorem aRe(ops:List TOp)(c:Int)(o:TOp):(nto ops c o).length<=ops.length+1:=by
 unfold nto;split <;> simp
theorem pO(l m:Nat)(ops:List TOp)(c:Int)(o:TOp)(σ:List (List D))(hq:σ[l]?=some (pC m ops))(hl:ops.length<=100000):Ct prog 151 [.ref l 0,D.int c,uE o] σ (fun r σ'=>r=D.int c/\σ'=nt l m ops c o σ):=by
 refine zf func151 ?_;refine zr ⟨[13],[5],[],[],[]⟩ fun _ _ Z=>?_;simp[hq,aM hq];apply Z;apply aE;refine zr ⟨[13],[5],[],[],[]⟩ fun _ _ Z=>?_;simp[hq,aM hq];apply Z;refine zI ?_ ?_<;>intro c1<;>try simp at c1
 .refine ze ⟨[13],[5],[],[],[]⟩ [.op {},.op {},.op {},.op {},.op {rO:=true,wO:=true},.op {},.op {},.op {},.op {},.op {},.op {rO:=true,wO:=true}] fun all hall _ Z=>?_;refine kF 8 fun _ Y=>?_;simp[hq,aM hq];and_intros<;>(try omega);apply Y;simp[hq,aM hq];apply Z;apply fW;refine zk [1,6] ?_;refine zr ⟨[13],[5],[],[],[]⟩ fun _ _ Z=>?_;simp[hq,aM hq];apply Z;apply aC;simp [aH,nt,c1,pC]
 apply zA;refine zr ⟨[13],[5],[],[],[]⟩ fun _ _ Z=>?_;simp[hq,aM hq];apply Z;apply aC;simp [aH,nt,c1,pC]
theorem Xd(l m:Nat)(ops:List TOp)(s:ByteArray)(n c:Int)(σ2:List (List D))(σ:List (List D))(hg:σ[l]?=some (pC m ops))(hc:Ct prog 133 [.ref m 0,D.str s] σ (fun r τ=>r= .tup [D.int n,D.int c]/\τ=σ2))(h2:σ2[l]?=some (pC m ops))(hl:ops.length<=100000):Ct prog 178 [.ref l 0,D.str s] σ (fun r σ'=>r= .tup [D.int n,D.int c]/\σ'=nt l m ops c ⟨1,n,0,0,s,⟨#[]⟩⟩ σ2):=by
 refine zf func178 ?_;refine bB fun _ _ Z=>?_;simp[hg];apply Z;refine bB fun _ _ Z=>?_;refine zs 5 fun _ Y=>?_;simp[hg];apply Y;refine aF fun _ Y=>?_;simp[hg];refine cT (hc) ?_;apply Y;simp[hg];apply Z;refine zk [0,1,4,5,6,7] ?_;refine bB fun _ _ Z=>?_;refine zs 6 fun _ Y=>?_;simp[hg];apply Y;refine aF fun _ Y=>?_;simp[hg];refine cT (pO l m ops c ⟨1,n,0,0,s,⟨#[]⟩⟩ _ h2 hl) ?_;apply Y;simp[hg];apply Z;apply aC;simp [aH]
theorem aId(l m:Nat)(ops:List TOp)(s:ByteArray)(n c:Int)(σ2:List (List D))(σ:List (List D))(hg:σ[l]?=some (pC m ops))(hc:Ct prog 135 [.ref m 0,D.str s] σ (fun r τ=>r= .tup [D.int n,D.int c]/\τ=σ2))(h2:σ2[l]?=some (pC m ops))(hl:ops.length<=100000):Ct prog 177 [.ref l 0,D.str s] σ (fun r σ'=>r= .tup [D.int n,D.int c]/\σ'=nt l m ops c ⟨2,n,0,0,⟨#[]⟩,s⟩ σ2):=by
 refine zf func177 ?_;refine bB fun _ _ Z=>?_;simp[hg];apply Z;refine bB fun _ _ Z=>?_;refine zs 5 fun _ Y=>?_;simp[hg];apply Y;refine aF fun _ Y=>?_;simp[hg];refine cT (hc) ?_;apply Y;simp[hg];apply Z;refine zk [0,1,4,5,6,7] ?_;refine bB fun _ _ Z=>?_;refine zs 6 fun _ Y=>?_;simp[hg];apply Y;refine aF fun _ Y=>?_;simp[hg];refine cT (pO l m ops c ⟨2,n,0,0,⟨#[]⟩,s⟩ _ h2 hl) ?_;apply Y;simp[hg];apply Z;apply aC;simp [aH]
theorem Za(l m:Nat)(ops:List TOp)(p at_ id:Int)(c:Int)(σ2:List (List D))(σ:List (List D))(hg:σ[l]?=some (pC m ops))(hc:Ct prog 136 [.ref m 0,D.int p,D.int at_,D.int id] σ (fun r τ=>r=D.int c/\τ=σ2))(h2:σ2[l]?=some (pC m ops))(hl:ops.length<=100000):Ct prog 64 [.ref l 0,D.int p,D.int at_,D.int id] σ (fun r σ'=>r=D.int c/\σ'=nt l m ops c ⟨3,p,at_,id,⟨#[]⟩,⟨#[]⟩⟩ σ2):=by
 refine zf func64 ?_;refine bB fun _ _ Z=>?_;simp[hg];apply Z;refine bB fun _ _ Z=>?_;refine zs 8 fun _ Y=>?_;simp[hg];apply Y;refine aF fun _ Y=>?_;simp[hg];refine cT (hc) ?_;apply Y;refine zs 4 fun _ Y=>?_;simp[hg];apply Y;refine aF fun _ Y=>?_;simp[hg];refine cT (pO l m ops c ⟨3,p,at_,id,⟨#[]⟩,⟨#[]⟩⟩ _ h2 hl) ?_;apply Y;simp[hg];apply Z;apply aC;simp [aH]
theorem Uf(l m:Nat)(ops:List TOp)(id:Int)(s v:ByteArray)(c:Int)(σ2:List (List D))(σ:List (List D))(hg:σ[l]?=some (pC m ops))(hc:Ct prog 199 [.ref m 0,D.int id,D.str s,D.str v] σ (fun r τ=>r=D.int c/\τ=σ2))(h2:σ2[l]?=some (pC m ops))(hl:ops.length<=100000):Ct prog 120 [.ref l 0,D.int id,D.str s,D.str v] σ (fun r σ'=>r=D.int c/\σ'=nt l m ops c ⟨8,id,0,0,s,v⟩ σ2):=by
 refine zf func120 ?_;refine bB fun _ _ Z=>?_;simp[hg];apply Z;refine bB fun _ _ Z=>?_;refine zs 8 fun _ Y=>?_;simp[hg];apply Y;refine aF fun _ Y=>?_;simp[hg];refine cT (hc) ?_;apply Y;refine zs 4 fun _ Y=>?_;simp[hg];apply Y;refine aF fun _ Y=>?_;simp[hg];refine cT (pO l m ops c ⟨8,id,0,0,s,v⟩ _ h2 hl) ?_;apply Y;simp[hg];apply Z;apply aC;simp [aH]
theorem Rg(l m:Nat)(ops:List TOp)(id:Int)(s:ByteArray)(c:Int)(σ2:List (List D))(σ:List (List D))(hg:σ[l]?=some (pC m ops))(hc:Ct prog 200 [.ref m 0,D.int id,D.str s] σ (fun r τ=>r=D.int c/\τ=σ2))(h2:σ2[l]?=some (pC m ops))(hl:ops.length<=100000):Ct prog 122 [.ref l 0,D.int id,D.str s] σ (fun r σ'=>r=D.int c/\σ'=nt l m ops c ⟨9,id,0,0,s,⟨#[]⟩⟩ σ2):=by
 refine zf func122 ?_;refine bB fun _ _ Z=>?_;simp[hg];apply Z;refine bB fun _ _ Z=>?_;refine zs 7 fun _ Y=>?_;simp[hg];apply Y;refine aF fun _ Y=>?_;simp[hg];refine cT (hc) ?_;apply Y;refine zs 3 fun _ Y=>?_;simp[hg];apply Y;refine aF fun _ Y=>?_;simp[hg];refine cT (pO l m ops c ⟨9,id,0,0,s,⟨#[]⟩⟩ _ h2 hl) ?_;apply Y;simp[hg];apply Z;apply aC;simp [aH]
theorem Rx(l m:Nat)(ops:List TOp)(id:Int)(s:ByteArray)(v:Int)(c:Int)(σ2:List (List D))(σ:List (List D))(hg:σ[l]?=some (pC m ops))(hc:Ct prog 202 [.ref m 0,D.int id,D.str s,D.int v] σ (fun r τ=>r=D.int c/\τ=σ2))(h2:σ2[l]?=some (pC m ops))(hl:ops.length<=100000):Ct prog 126 [.ref l 0,D.int id,D.str s,D.int v] σ (fun r σ'=>r=D.int c/\σ'=nt l m ops c ⟨10,id,0,v,s,⟨#[]⟩⟩ σ2):=by
 refine zf func126 ?_;refine bB fun _ _ Z=>?_;simp[hg];apply Z;refine bB fun _ _ Z=>?_;refine zs 8 fun _ Y=>?_;simp[hg];apply Y;refine aF fun _ Y=>?_;simp[hg];refine cT (hc) ?_;apply Y;refine zs 4 fun _ Y=>?_;simp[hg];apply Y;refine aF fun _ Y=>?_;simp[hg];refine cT (pO l m ops c ⟨10,id,0,v,s,⟨#[]⟩⟩ _ h2 hl) ?_;apply Y;simp[hg];apply Z;apply aC;simp [aH]
theorem Na(l m:Nat)(ops:List TOp)(id:Int)(s:ByteArray)(c:Int)(σ2:List (List D))(σ:List (List D))(hg:σ[l]?=some (pC m ops))(hc:Ct prog 203 [.ref m 0,D.int id,D.str s] σ (fun r τ=>r=D.int c/\τ=σ2))(h2:σ2[l]?=some (pC m ops))(hl:ops.length<=100000):Ct prog 128 [.ref l 0,D.int id,D.str s] σ (fun r σ'=>r=D.int c/\σ'=nt l m ops c ⟨11,id,0,0,s,⟨#[]⟩⟩ σ2):=by
 refine zf func128 ?_;refine bB fun _ _ Z=>?_;simp[hg];apply Z;refine bB fun _ _ Z=>?_;refine zs 7 fun _ Y=>?_;simp[hg];apply Y;refine aF fun _ Y=>?_;simp[hg];refine cT (hc) ?_;apply Y;refine zs 3 fun _ Y=>?_;simp[hg];apply Y;refine aF fun _ Y=>?_;simp[hg];refine cT (pO l m ops c ⟨11,id,0,0,s,⟨#[]⟩⟩ _ h2 hl) ?_;apply Y;simp[hg];apply Z;apply aC;simp [aH]
theorem Rs(l m:Nat)(ops:List TOp)(id:Int)(s:ByteArray)(c:Int)(σ2:List (List D))(σ:List (List D))(hg:σ[l]?=some (pC m ops))(hc:Ct prog 197 [.ref m 0,D.int id,D.str s] σ (fun r τ=>r=D.int c/\τ=σ2))(h2:σ2[l]?=some (pC m ops))(hl:ops.length<=100000):Ct prog 116 [.ref l 0,D.int id,D.str s] σ (fun r σ'=>r=D.int c/\σ'=nt l m ops c ⟨12,id,0,0,s,⟨#[]⟩⟩ σ2):=by
 refine zf func116 ?_;refine bB fun _ _ Z=>?_;simp[hg];apply Z;refine bB fun _ _ Z=>?_;refine zs 7 fun _ Y=>?_;simp[hg];apply Y;refine aF fun _ Y=>?_;simp[hg];refine cT (hc) ?_;apply Y;refine zs 3 fun _ Y=>?_;simp[hg];apply Y;refine aF fun _ Y=>?_;simp[hg];refine cT (pO l m ops c ⟨12,id,0,0,s,⟨#[]⟩⟩ _ h2 hl) ?_;apply Y;simp[hg];apply Z;apply aC;simp [aH]
theorem Ms(l m:Nat)(ops:List TOp)(id:Int)(s:ByteArray)(c:Int)(σ2:List (List D))(σ:List (List D))(hg:σ[l]?=some (pC m ops))(hc:Ct prog 196 [.ref m 0,D.int id,D.str s] σ (fun r τ=>r=D.int c/\τ=σ2))(h2:σ2[l]?=some (pC m ops))(hl:ops.length<=100000):Ct prog 115 [.ref l 0,D.int id,D.str s] σ (fun r σ'=>r=D.int c/\σ'=nt l m ops c ⟨13,id,0,0,s,⟨#[]⟩⟩ σ2):=by
 refine zf func115 ?_;refine bB fun _ _ Z=>?_;simp[hg];apply Z;refine bB fun _ _ Z=>?_;refine zs 7 fun _ Y=>?_;simp[hg];apply Y;refine aF fun _ Y=>?_;simp[hg];refine cT (hc) ?_;apply Y;refine zs 3 fun _ Y=>?_;simp[hg];apply Y;refine aF fun _ Y=>?_;simp[hg];refine cT (pO l m ops c ⟨13,id,0,0,s,⟨#[]⟩⟩ _ h2 hl) ?_;apply Y;simp[hg];apply Z;apply aC;simp [aH]
theorem aTe(m:Nat)(σ:List (List D))  :Ct prog 61 [.ref m 0] σ (fun r σ'=>r= .ref σ.length 0/\σ'=σ++ [pC m []]):=by
 refine zf func61 ?_;refine zr ⟨[],[],[5],[],[]⟩ fun _ _ Z=>?_;simp[bI,aX,aI,aG];apply Z;refine zr ⟨[],[],[5],[],[]⟩ fun _ _ Z=>?_;simp[bI,aX,aI,aG];and_intros<;>(try omega);apply Z;apply aC;simp [aH]
theorem aQ1(x y:RD)(o:TOp)(n c:Int)(bel bel2:Int->List Int)(rk:Int->Nat)(σ:List (List D))(hx:NB x.l)(hnx:0<=x.next/\x.next<=1000000)(htr:Tr x.l bel rk)(htr2:Tr (remP x.l o.a) bel2 rk)(hkl:∀i,(aJ x.l i).kids.length<=900)(hkn:∀i,(aJ x.l i).kids.Nodup)(hsa:∀i,Sorted nA (aJ x.l i).attrs)(hss:∀i,Sorted nP (aJ x.l i).styles)(s1:o.name.size<=1000)(s2:o.value.size<=1000)(q1:(o.kind=1\/o.kind=2)->¬x.next=o.a->y=x/\c=1)(q2:o.kind=1->x.next=o.a->addX x 2 o.name=(y,n,c))(q3:o.kind=2->x.next=o.a->addX x 1 o.value=(y,n,c))(q4:o.kind=3->insX x bel o.a o.b o.c=(y,c))(q5:o.kind=4->movX x o.a o.b=(y,c))(q6:o.kind=5->remX x bel2 o.a=(y,c))(q7:o.kind<1\/13<o.kind->y=x/\c=14)(q8:6<=o.kind->o.kind<=13->setX x (o.kind - 6) o.a o.name o.value o.c=(y,c)):Ct prog 161 [jQ x,uE o] σ (fun r σ'=>r= .tup [jQ y,D.int c]/\σ'=σ):=by
 refine zf func161 ?_;refine zr ⟨[],[2,3],[],[],[]⟩ fun _ _ Z=>?_;simp;apply Z;apply aE;refine zr ⟨[],[2,3],[],[],[]⟩ fun _ _ Z=>?_;simp;apply Z;apply aR;apply aE;refine zr ⟨[],[2,3],[],[],[]⟩ fun _ _ Z=>?_;simp;apply Z;refine zI ?_ ?_<;>intro c1<;>try simp at c1
 .apply zA;refine bA (t:=true) (by simp) (fun _=>?_) (fun h=>by cases h);apply aE;refine zr ⟨[],[2,3],[],[],[]⟩ fun _ _ Z=>?_;simp;apply Z;refine zI ?_ ?_<;>intro c2<;>try simp at c2
  .refine zk [2,3,4,5] ?_;refine zr ⟨[],[2,3],[],[],[]⟩ fun _ _ Z=>?_;simp;apply Z;apply aC;obtain⟨r1,r2⟩:=q1 (by omega) (by omega);subst r1;subst r2;simp [aH]
  apply zA;refine zk [2,3,4,5] ?_;refine zr ⟨[],[2,3],[],[],[]⟩ fun _ _ Z=>?_;simp;apply Z;apply aE;refine zr ⟨[],[2,3],[],[],[]⟩ fun _ _ Z=>?_;simp;apply Z;refine zI ?_ ?_<;>intro c3<;>try simp at c3
  .omega
  apply zA;refine zk [2,3,4,5,6] ?_;refine zr ⟨[],[2,3],[],[],[]⟩ fun _ _ Z=>?_;refine zs 5 fun _ Y=>?_;simp;and_intros<;>(try omega);apply Y;refine aF fun _ Y=>?_;simp;refine cT (aDb x (3 - o.kind) o.name _ hx hnx s1) ?_;rw [show(3 - o.kind:Int)=2 by omega,q2 (by omega) (by omega)];apply Y;simp;apply Z;refine zk [2,3,4,5,7,9] ?_;refine zr ⟨[],[2,3],[],[],[]⟩ fun _ _ Z=>?_;simp;apply Z;apply aC;simp [aH]
 refine zt ⟨[],[2,3],[],[],[]⟩ fun _ _ Z=>?_;simp;apply Z;apply fW;refine zI ?_ ?_<;>intro c4<;>try simp at c4
 .apply aE;refine zr ⟨[],[2,3],[],[],[]⟩ fun _ _ Z=>?_;simp;apply Z;refine zI ?_ ?_<;>intro c5<;>try simp at c5
  .refine zk [2,3,4,5] ?_;refine zr ⟨[],[2,3],[],[],[]⟩ fun _ _ Z=>?_;simp;apply Z;apply aC;obtain⟨r1,r2⟩:=q1 (by omega) (by omega);subst r1;subst r2;simp [aH]
  apply zA;refine zk [2,3,4,5] ?_;refine zr ⟨[],[2,3],[],[],[]⟩ fun _ _ Z=>?_;simp;apply Z;apply aE;refine zr ⟨[],[2,3],[],[],[]⟩ fun _ _ Z=>?_;simp;apply Z;refine zI ?_ ?_<;>intro c6<;>try simp at c6
  .refine zt ⟨[],[2,3],[],[],[]⟩ fun _ _ Z=>?_;simp;apply Z;apply fW;refine zk [2,3,4,5,6] ?_;refine zr ⟨[],[2,3],[],[],[]⟩ fun _ _ Z=>?_;refine zs 5 fun _ Y=>?_;simp;and_intros<;>(try omega);apply Y;refine aF fun _ Y=>?_;simp;refine cT (aDb x (3 - o.kind) o.value _ hx hnx s2) ?_;rw [show(3 - o.kind:Int)=1 by omega,q3 (by omega) (by omega)];apply Y;simp;apply Z;refine zk [2,3,4,5,7,9] ?_;refine zr ⟨[],[2,3],[],[],[]⟩ fun _ _ Z=>?_;simp;apply Z;apply aC;simp [aH]
  omega
 refine zr ⟨[],[2,3],[],[],[]⟩ fun _ _ Z=>?_;simp;apply Z;refine zI ?_ ?_<;>intro c7<;>try simp at c7
 .refine zk [2,3,4,5] ?_;refine zr ⟨[],[2,3],[],[],[]⟩ fun _ _ Z=>?_;refine zs 7 fun _ Y=>?_;simp;apply Y;refine aF fun _ Y=>?_;simp;refine cT (aQv x o.a o.b o.c bel rk _ hx htr (hkl _)) ?_;rw [q4 (by omega)];apply Y;simp;apply Z;apply aC;simp [aH]
 refine zk [2,3,4,5,11] ?_;refine zr ⟨[],[2,3],[],[],[]⟩ fun _ _ Z=>?_;simp;apply Z;refine zI ?_ ?_<;>intro c8<;>try simp at c8
 .refine zr ⟨[],[2,3],[],[],[]⟩ fun _ _ Z=>?_;refine zs 5 fun _ Y=>?_;simp;apply Y;refine aF fun _ Y=>?_;simp;refine cT (aRc x o.a o.b _ hx (hkn _)) ?_;rw [q5 (by omega)];apply Y;simp;apply Z;apply aC;simp [aH]
 refine zr ⟨[],[2,3],[],[],[]⟩ fun _ _ Z=>?_;simp;apply Z;refine zI ?_ ?_<;>intro c9<;>try simp at c9
 .refine zr ⟨[],[2,3],[],[],[]⟩ fun _ _ Z=>?_;refine zs 3 fun _ Y=>?_;simp;apply Y;refine aF fun _ Y=>?_;simp;refine cT (aQh x o.a bel2 rk _ hx htr2) ?_;rw [q6 (by omega)];apply Y;simp;apply Z;apply aC;simp [aH]
 apply mS;apply aE;refine mH ⟨[],[2,3],[],[],[]⟩ fun all hall _ Z=>?_;have ga3:aN all 3=some 73:=hall 3;refine zs 4 fun _ Y=>?_;simp[ga3];apply Y;refine zb 73 ?_ ?_<;>intro g10<;>try simp at g10
 .simp[ga3];apply Z;refine bA (t:=true) (by simp) (fun _=>?_) (fun h=>by cases h);refine zk [2,3,4,5] ?_;refine zr ⟨[],[2,3],[],[],[]⟩ fun _ _ Z=>?_;simp;apply Z;apply aC;obtain⟨r1,r2⟩:=q7 (by omega);subst r1;subst r2;simp [aH]
 simp[ga3];apply Z;refine zI ?_ ?_<;>intro c11<;>try simp at c11
 .refine zk [2,3,4,5] ?_;refine zr ⟨[],[2,3],[],[],[]⟩ fun _ _ Z=>?_;simp;apply Z;apply aC;obtain⟨r1,r2⟩:=q7 (by omega);subst r1;subst r2;simp [aH]
 apply zA;refine zk [2,3,4,5] ?_;refine zr ⟨[],[2,3],[],[],[]⟩ fun _ _ Z=>?_;refine zs 8 fun _ Y=>?_;simp;and_intros<;>(try omega);apply Y;refine zs 4 fun _ Y=>?_;simp;apply Y;refine aF fun _ Y=>?_;simp;refine cT (aPx x (o.kind - 6) o.a o.name o.value o.c _ hx s1 (hsa _) (hss _)) ?_;rw [q8 (by omega) (by omega)];apply Y;simp;apply Z;apply aC;simp [aH]
structure LX(k m M l:Nat)(d:DS)(rk:Int->Nat)(x:RD)(ops:List TOp)(σ:List (List D)):Prop where
 ix:IX k m M d rk x σ
 off:Off m d l
 at_:σ[l]?=some (pC m ops)
 len:ops.length<=k
variable {k m M l:Nat} {d d':DS} {rk rk':Int->Nat} {σ σ2:List (List D)} {x y:RD} {ops:List TOp}
theorem LX.step(h:LX k m M l d rk x ops σ)(hi:IX (k+1) m M d' rk' y σ2)(fr:FrO m d d' σ σ2):σ2[l]?=some (pC m ops)/\∀c o,LX (k+1) m M l d' rk' y (nto ops c o) (nt l m ops c o σ2):=by
 obtain⟨o1,o2⟩:=h.off.step (pY h.at_) fr;rw [h.at_] at o2;refine⟨o2,fun c o=>⟨?_,o1,aUp o2,by have:=aRe ops c o;have:=h.len;omega⟩⟩;unfold nt;split
 .exact hi.put o1 _
 exact hi
theorem LX.keep(h:LX k m M l d rk x ops σ):LX (k+1) m M l d rk x ops σ:=⟨h.ix.mono,h.off,h.at_,by have:=h.len;omega⟩
def Oth(m:Nat)(L:Nat->Prop)(d d':DS)(σ σ':List (List D)):Prop:=σ.length<=σ'.length/\∀i,i<σ.length->Off m d i->¬L i->Off m d' i/\σ'[i]?=σ[i]?
theorem FrO.oth(fr:FrO m d d' σ σ2)(L:Nat->Prop):Oth m L d d' σ σ2:=⟨fr.len,fun _ hi ho _=>ho.step hi fr⟩
theorem FrO.othN(fr:FrO m d d' σ σ2)(l:Nat)(ops:List TOp)(c:Int)(o:TOp):Oth m (· =l) d d' σ (nt l m ops c o σ2):=by
 refine⟨?_,fun i hi ho hl=>?_⟩
 .unfold nt;split
  .rw [cK];exact fr.len
  exact fr.len
 obtain⟨h1,h2⟩:=ho.step hi fr;refine⟨h1,?_⟩;unfold nt;split
 .rw [eR (fun e=>hl e.symm)];exact h2
 exact h2
theorem Oth.refl(m:Nat)(L:Nat->Prop)(d:DS)(σ:List (List D)):Oth m L d d σ σ:=⟨aW _,fun _ _ h _=>⟨h,rfl⟩⟩
theorem Oth.trans {L:Nat->Prop} {d1 d2 d3:DS} {s1 s2 s3:List (List D)} (h:Oth m L d1 d2 s1 s2)(g:Oth m L d2 d3 s2 s3):Oth m L d1 d3 s1 s3:=
 ⟨lM h.1 g.1,fun i hi ho hl=>by
  obtain⟨a,b⟩:=h.2 i hi ho hl;obtain⟨a',b'⟩:=g.2 i (by have:=h.1;omega) a hl;exact⟨a',by rw [b',b]⟩⟩
def BelOf(l:List ND)(b:Int->List Int):Prop:=∃rk,Dec l rk/\b=dU l rk
theorem BelOf.uniq {l:List ND} {b b':Int->List Int} (h:BelOf l b)(h':BelOf l b'):b=b':=by
 obtain⟨r,h1,rfl⟩:=h;obtain⟨r',h2,rfl⟩:=h';have:∀n id,r id<=n->dU l r id=dU l r' id:=by
  intro n;induction n with
  | zero=>
   intro id hid;rw [jZ h1,jZ h2];have:(aJ l id).kids= []:=h1.nil (by omega);rw [this];rfl
  | succ n ih=>
   intro id hid;rw [jZ h1,jZ h2];congr 1;exact mZ fun k hk=>ih k (by have:=h1 id k hk;omega)
 funext id;exact this (r id) id (aW _)
def aZj(x:RD)(b b2:Int->List Int)(o:TOp)(y:RD)(n c:Int):Prop:=((o.kind=1\/o.kind=2)->¬x.next=o.a->y=x/\c=1)/\(o.kind=1->x.next=o.a->addX x 2 o.name=(y,n,c))/\(o.kind=2->x.next=o.a->addX x 1 o.value=(y,n,c))/\(o.kind=3->insX x b o.a o.b o.c=(y,c))/\(o.kind=4->movX x o.a o.b=(y,c))/\
  (o.kind=5->remX x b2 o.a=(y,c))/\(o.kind<1\/13<o.kind->y=x/\c=14)/\(6<=o.kind->o.kind<=13->setX x (o.kind - 6) o.a o.name o.value o.c=(y,c))
def Doc(x:RD)(o:TOp)(y:RD)(c:Int):Prop:=∃b b2 n,BelOf x.l b/\BelOf (remP x.l o.a) b2/\aZj x b b2 o y n c
theorem pr2 {α β:Type} {p:α×β} {a a':α} {b b':β} (h:p=(a,b))(h':p=(a',b')):a=a'/\b=b':=by rw [h] at h';cases h';exact⟨rfl,rfl⟩
theorem Doc.uniq {x y y':RD} {o:TOp} {c c':Int} (h:Doc x o y c)(h':Doc x o y' c'):y=y'/\c=c':=by
 obtain⟨b,b2,n,h1,h2,h⟩:=h;obtain⟨b',b2',n',h1',h2',h'⟩:=h';obtain rfl:=h1.uniq h1';obtain rfl:=h2.uniq h2';obtain⟨q1,q2,q3,q4,q5,q6,q7,q8⟩:=h;obtain⟨r1,r2,r3,r4,r5,r6,r7,r8⟩:=h';by_cases k12:o.kind=1\/o.kind=2
 .by_cases hn:x.next=o.a
  .rcases k12 with k | k
   .have:=pr2 (q2 k hn) (r2 k hn);exact⟨this.1,congrArg Prod.snd this.2⟩
   have:=pr2 (q3 k hn) (r3 k hn);exact⟨this.1,congrArg Prod.snd this.2⟩
  have a:=q1 k12 hn;have b:=r1 k12 hn;exact⟨a.1.trans b.1.symm,a.2.trans b.2.symm⟩
 by_cases k3:o.kind=3
 .exact pr2 (q4 k3) (r4 k3)
 by_cases k4:o.kind=4
 .exact pr2 (q5 k4) (r5 k4)
 by_cases k5:o.kind=5
 .exact pr2 (q6 k5) (r6 k5)
 by_cases k6:6<=o.kind/\o.kind<=13
 .exact pr2 (q8 k6.1 k6.2) (r8 k6.1 k6.2)
 have a:=q7 (by omega);have b:=r7 (by omega);exact⟨a.1.trans b.1.symm,a.2.trans b.2.symm⟩
theorem yO(h:IX k m M d rk x σ)(hk:k<=800)(o:TOp)(s1:o.name.size<=1000)(s2:o.value.size<=1000)(y:RD)(n c:Int):
  (q1:(o.kind=1\/o.kind=2)->¬x.next=o.a->y=x/\c=1)->(q2:o.kind=1->x.next=o.a->addX x 2 o.name=(y,n,c))->(q3:o.kind=2->x.next=o.a->addX x 1 o.value=(y,n,c))->(q4:o.kind=3->insX x (dU d.l rk) o.a o.b o.c=(y,c))->(q5:o.kind=4->movX x o.a o.b=(y,c))->
  (q6:o.kind=5->remX x (dU (remP d.l o.a) rk) o.a=(y,c))->(q7:o.kind<1\/13<o.kind->y=x/\c=14)->(q8:6<=o.kind->o.kind<=13->setX x (o.kind - 6) o.a o.name o.value o.c=(y,c))->Doc x o y c/\∀τ,Ct prog 161 [jQ x,uE o] τ (fun r τ'=>r= .tup [jQ y,D.int c]/\τ'=τ):=by
 obtain⟨hi,hx⟩:=h;obtain⟨b1,b2,b3⟩:=hi.bounds (by omega);have hnb:NB x.l:=hx.nb (hi.ip.NB (by omega));have htr:Tr d.l (dU d.l rk) rk:=hi.wt.Tr (by have:=hi.ip.len;rw [Ai];omega);have htr1:Tr x.l (dU d.l rk) rk:=htr.perm hx.fd;have htr2:Tr (remP x.l o.a) (dU (remP d.l o.a) rk) rk:=(aUr hi.wt (by have:=hi.ip.len;rw [Ai];omega) _).perm (vX (hx.remP _) (by rw [Dg];exact hx.nd));have hnx:0<=x.next/\x.next<=1000000:=by rw [hx.next];exact b3
 have hD1:Dec d.l rk:=hi.wt.Dec;have e1:dU d.l rk=dU x.l rk:=(Gw hx.fd rk).symm;have e2:dU (remP d.l o.a) rk=dU (remP x.l o.a) rk:=(Gw (vX (hx.remP _) (by rw [Dg];exact hx.nd)) rk).symm;exact fun q1 q2 q3 q4 q5 q6 q7 q8=>⟨⟨_,_,n,⟨rk,fun i k hk=>by rw [hx.fd] at hk;exact hD1 i k hk,e1⟩,⟨rk,fun i k hk=>by rw [vX (hx.remP _) (by rw [Dg];exact hx.nd)] at hk;exact Dec.rem hi.wt o.a i k hk,e2⟩,q1,q2,q3,q4,q5,q6,q7,q8⟩,fun τ=>aQ1 x y o n c (dU d.l rk) (dU (remP d.l o.a) rk) rk τ hnb hnx htr1 htr2 (fun i=>by rw [hx.fd];exact aVm hi hk i) (fun i=>by rw [hx.fd];exact aT9 hi i) (fun i=>by rw [hx.fd];exact aSg hi i) (fun i=>by rw [hx.fd];exact aSr hi i) s1 s2 q1 q2 q3 q4 q5 q6 q7 q8⟩
def RPath:RD->List TOp->RD->Prop
 | x, [],y=>y=x
 | x,o::r,z=>∃y,(∀τ,Ct prog 161 [jQ x,uE o] τ (fun r τ'=>r= .tup [jQ y,D.int 0]/\τ'=τ))/\RPath y r z
theorem RPath.snoc {o:TOp} {z y:RD} :∀ {ops:List TOp} {x:RD},RPath x ops y->(∀τ,Ct prog 161 [jQ y,uE o] τ (fun r τ'=>r= .tup [jQ z,D.int 0]/\τ'=τ))->RPath x (ops++ [o]) z
 | [],x,h,ho=>by have e:y=x:=h;subst e;exact⟨z,ho,rfl⟩
 | p::r,x,⟨w,hw,h⟩,ho=>⟨w,hw,RPath.snoc h ho⟩
theorem RPath.xs:∀ {ops:List TOp} {x y:RD},RPath x ops y->∃xs:Nat->RD,xs 0=x/\xs ops.length=y/\∀i (h:i<ops.length),∀τ,Ct prog 161 [jQ (xs i),uE ops[i]] τ (fun r τ'=>r= .tup [jQ (xs (i+1)),D.int 0]/\τ'=τ)
 | [],x,y,h=>⟨fun _=>x,rfl,Eq.symm h,fun i h=>by simp at h⟩
 | o::r,x,y,⟨w,hw,h⟩=>by
  obtain⟨xs,h1,h2,h3⟩:=RPath.xs h;refine⟨fun i=>match i with | 0=>x | i+1=>xs i,rfl,h2,fun i hi=>?_⟩
  match i with
  | 0=>show ∀τ,Ct _ _ [jQ x,uE o] τ (fun r τ'=>r= .tup [jQ (xs 0),D.int 0]/\τ'=τ);rw [h1];exact hw
  | i+1=>exact h3 i (by simpa using hi)
inductive DoS(a:Act)(x:RD):RD->Prop
 | el (q:(mW a).kind=0):DoS a x (addX x 2 (mW a).name).1
 | tx (q:(mW a).kind=1):DoS a x (addX x 1 (mW a).value).1
 | ins (b:Int->List Int) (q:(mW a).kind=2) (hb:BelOf x.l b):DoS a x (insX x b (mW a).a (mW a).b (mW a).c).1
 | mov (q:(mW a).kind=3):DoS a x (movX x (mW a).a (mW a).b).1
 | rem (b:Int->List Int) (q:(mW a).kind=4) (hb:BelOf (remP x.l (mW a).a) b):DoS a x (remX x b (mW a).a).1
 | set (q:10<=(mW a).kind/\(mW a).kind<=17):DoS a x (setX x ((mW a).kind - 10) (mW a).a (mW a).name (mW a).value (mW a).c).1
 | no (q0:¬(mW a).kind=0) (q1:¬(mW a).kind=1) (q2:¬(mW a).kind=2) (q3:¬(mW a).kind=3) (q4:¬(mW a).kind=4) (q5:¬(10<=(mW a).kind/\(mW a).kind<=17)):DoS a x x
theorem LX.on {k m M:Nat} {d:DS} {rk:Int->Nat} {x:RD} {σ:List (List D)} (h:IX k m M d rk x σ):LX k m M σ.length d rk x [] (σ++ [pC m []]):=
 ⟨h.app _,h.off (aW _),by simp,iM _⟩
def opS(p:Int)(s:ST):TOp:=if s.kind=2 then⟨3,p,s.at_,s.ID,⟨#[]⟩,⟨#[]⟩⟩else⟨4,s.ID,s.at_,0,⟨#[]⟩,⟨#[]⟩⟩
inductive KR(p:Int):List ST->RD->List TOp->RD->List TOp->Prop
 | nil (x:RD) (ops:List TOp):KR p [] x ops x ops
 | snoc {ss:List ST} {s:ST} {x y z:RD} {ops ops':List TOp} {c:Int} (h:KR p ss x ops y ops') (hd:Doc y (opS p s) z c) (hc:∀τ,Ct prog 161 [jQ y,uE (opS p s)] τ (fun r τ'=>r= .tup [jQ z,D.int c]/\τ'=τ)):KR p (ss++ [s]) x ops z (nto ops' c (opS p s))
theorem KR.step {p:Int} {S:List ST} {j:Nat} {x y z:RD} {ops ops':List TOp} {c:Int} (hj:j<S.length)(h:KR p (S.take j) x ops y ops')(hd:Doc y (opS p S[j]) z c)(hc:∀τ,Ct prog 161 [jQ y,uE (opS p S[j])] τ (fun r τ'=>r= .tup [jQ z,D.int c]/\τ'=τ)):
  KR p (S.take (j+1)) x ops z (nto ops' c (opS p S[j])):=by
 rw [Gx hj];exact h.snoc hd hc
end Go.Proofs.YtbgfljpnhhdkoaaGreat
