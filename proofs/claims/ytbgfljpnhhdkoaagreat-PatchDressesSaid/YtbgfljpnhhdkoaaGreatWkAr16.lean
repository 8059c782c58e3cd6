import Derived.Test.YtbgfljpnhhdkoaaGreatArPerm
set_option maxRecDepth 20000
set_option linter.all false
set_option maxHeartbeats 8000000
open Go.Proofs.Tryz
namespace Go.Proofs.YtbgfljpnhhdkoaaGreat
open Go Go.Vm
variable {M k m:Nat}{d:DS}{rk:Int->Nat}{σ:List (List D)}
structure Act where
 kind:Int
 a:Int
 b:Int
 c:Int
 name:ByteArray
 value:ByteArray
 deriving DecidableEq
@[simp] abbrev uA(s:Act):D:= .agg [.v (.int .i64 s.kind),.v (.int .i64 s.a),.v (.int .i64 s.b),.v (.int .i64 s.c),.v (.string s.name),.v (.string s.value)]
def dG(a:Act):Act:= { a with name:=uC 20 a.name,value:=uC 40 a.value }
def d0(most:Int)(o:Nat):DS:=⟨max 1 (min most 65536),1,1, [⟨pF,o,0⟩]⟩
theorem Ad(x:Int):Oj x 1 65536=max 1 (min x 65536):=by
 unfold Oj;(repeat' split) <;> omega
theorem aW0(most:Int)(σ:List (List D)):IV 0 (σ.length+1) σ.length (d0 most (σ.length+2)) (fun _=>0) (σ++ [[],sW σ.length (d0 most (σ.length+2)),gT pF]):=by
 have hl:(d0 most (σ.length+2)).l= [pF]:=rfl;have hm:∀n∈(d0 most (σ.length+2)).l,n=pF:=fun n hn=>by rw [hl] at hn;simpa using hn
 have hwt:WT (d0 most (σ.length+2)).l (fun _=>0):=by
  refine⟨by rw [hl];simp,fun n hn k hk=>?_,fun n hn=>?_,fun n hn=>?_,fun n hn=>?_,fun n hn k hk=>?_⟩ <;> have:=hm n hn <;> subst this
  .cases hk
  .exact .inl rfl
  .exact oA _
  .exact Ab
  cases hk
 refine⟨⟨by simp,fun e he=>?_,fun e he=>?_,by simp [d0],by simp⟩,⟨hwt.nd,by simp [d0],?_,by simp [d0],fun n hn=>?_,fun n hn=>?_,fun n hn=>?_,⟨pF,by rw [hl];simp,rfl,rfl,rfl⟩,fun n hn=>?_,?_⟩,hwt⟩
 .simp only [d0,gO] at he;subst he;simp
 .simp only [d0,gO] at he;subst he;show σ.length+2≠σ.length+1;omega
 .show 1<=max 1 (min most 65536)/\max 1 (min most 65536)<=65536;omega
 .have:=hm n hn;subst this;show(0:Int)<1;omega
 .have:=hm n hn;subst this;simp [pF]
 .have:=hm n hn;subst this;exact⟨List.Pairwise.nil,List.Pairwise.nil⟩
 .have:=hm n hn;subst this;exact .inr rfl
 show(([_]:List EN).length:Int) - 1<=max 1 (min most 65536);simp;omega
theorem aQd(most:Int)(σ:List (List D))  :Ct prog 58 [D.int most] σ (fun r σ'=>r= .ref (σ.length+1) 0/\σ'=σ++ [[],sW σ.length (d0 most (σ.length+2)),gT pF]):=by
 refine zf func58 ?_;refine zr ⟨[],[],[8,14],[],[]⟩ fun _ _ Z=>?_;simp[aY,aR,aL,aJ,Ad];apply Z;refine zr ⟨[],[],[8,14],[],[]⟩ fun _ _ Z=>?_;refine zs 1 fun _ Y=>?_;simp[aY,aR,aL,aJ,Ad];apply Y;refine aE fun _ Y=>?_;simp[aY,aR,aL,aJ,Ad];refine cB (aP4 ..) ?_;apply Y;simp[aY,aR,aL,aJ,Ad];and_intros<;>(try omega);apply Z;refine Oe 6 (σ.length+1) 2 (N:=σ.length) (kd:= .int .i64) (clock:=0) (kvs:= []) (by simp) (by simp [aY,aR,aL,aJ] <;> rfl) (by simp <;> rfl) ?_;simp only [aR,eQ,gR];refine zr ⟨[],[],[8,14],[],[]⟩ fun _ _ Z=>?_;simp[aY,aR,aL,aJ,Ad];refine⟨σ.length+1,2,0, [],1,_,⟨⟨_,by simp [aY,aR,aL,aJ] <;> rfl,rfl⟩,mT _,rfl,.inr ⟨by simp,rfl,rfl⟩⟩,?_⟩;rw [Rp (by simp [aY,aR,aL,aJ] <;> rfl)];and_intros<;>(try omega);apply Z;refine yH (σ.length+2) 8 1 (by simp [aY,aR,aL,aJ];rfl) rfl ?_;simp only [aR,eQ,gR];refine Pk (σ.length+2) (gT pF) (by simp [aY,aR,aL,aJ];rfl) (by simp [leC,pF,D.s1]) ?_;simp only [aR,eQ,gR];refine zk [2,3] ?_;refine zr ⟨[],[],[8,14],[],[]⟩ fun _ _ Z=>?_;simp[aY,aR,aL,aJ,Ad];apply Z;apply aD;simp [aK,d0,Ue,pF,sW]
theorem aPl(a:Act)(σ:List (List D))(h1:a.name.size<=9223372036854775807)(h2:a.value.size<=9223372036854775807):Ct prog 132 [uA a] σ (fun r σ'=>r=uA (dG a)/\σ'=σ):=by
 refine zf func132 ?_;refine bE fun _ _ Z=>?_;simp;apply Z;refine zd ⟨[],[],[],[],[]⟩ [.op {},.op {rL:=true},.pure,.op {},.op {rL:=true},.pure,.op {},.op {rL:=true,wL:=true},.op {},.op {rL:=true,wL:=true}] fun all hall _ Z=>?_;refine iU 2 fun _ Y=>?_;simp;apply Y;refine dL fun _ Y=>?_;simp;refine Ia (fun _=>(wX a.name 20 _ (by omega))) ?_;apply Y;refine iU 2 fun _ Y=>?_;simp;apply Y;refine dL fun _ Y=>?_;simp;refine Ia (fun _=>(wX a.value 40 _ (by omega))) ?_;apply Y;simp;apply Z;refine bE fun _ _ Z=>?_;simp;apply Z;apply aD;simp [aK,dG]
theorem nT(m:Nat)(a:Act)(c:Int)(σ2:List (List D))(σ:List (List D))(hb:10<=a.kind/\a.kind<=17)(e0:a.kind=10->Ct prog 163 [.ref m 0,D.int a.a,D.str a.name] σ (fun r τ=>r=D.int c/\τ=σ2))(e1:a.kind=11->Ct prog 164 [.ref m 0,D.int a.a,D.str a.value] σ (fun r τ=>r=D.int c/\τ=σ2))(e2:a.kind=12->Ct prog 199 [.ref m 0,D.int a.a,D.str a.name,D.str a.value] σ (fun r τ=>r=D.int c/\τ=σ2))(e3:a.kind=13->Ct prog 200 [.ref m 0,D.int a.a,D.str a.name] σ (fun r τ=>r=D.int c/\τ=σ2))(e4:a.kind=14->Ct prog 202 [.ref m 0,D.int a.a,D.str a.name,D.int a.c] σ (fun r τ=>r=D.int c/\τ=σ2))(e5:a.kind=15->Ct prog 203 [.ref m 0,D.int a.a,D.str a.name] σ (fun r τ=>r=D.int c/\τ=σ2))(e6:a.kind=16->Ct prog 197 [.ref m 0,D.int a.a,D.str a.name] σ (fun r τ=>r=D.int c/\τ=σ2))(e7:a.kind=17->Ct prog 196 [.ref m 0,D.int a.a,D.str a.name] σ (fun r τ=>r=D.int c/\τ=σ2)):Ct prog 142 [.ref m 0,uA a] σ (fun r σ'=>r=D.int c/\σ'=σ2):=by
 refine zf func142 ?_;refine bE fun _ _ Z=>?_;simp;apply Z;apply aF;refine bE fun _ _ Z=>?_;simp;and_intros<;>(try omega);apply Z;apply aS;refine bE fun _ _ Z=>?_;simp;apply Z;refine zI ?_ ?_<;>intro c1<;>try simp at c1
 .refine bE fun _ _ Z=>?_;refine zs 5 fun _ Y=>?_;simp;apply Y;refine aE fun _ Y=>?_;simp;refine cB (e0 (by omega)) ?_;apply Y;simp;apply Z;apply aD;simp [aK]
 refine bE fun _ _ Z=>?_;simp;apply Z;refine zI ?_ ?_<;>intro c2<;>try simp at c2
 .refine bE fun _ _ Z=>?_;refine zs 5 fun _ Y=>?_;simp;apply Y;refine aE fun _ Y=>?_;simp;refine cB (e1 (by omega)) ?_;apply Y;simp;apply Z;apply aD;simp [aK]
 refine bE fun _ _ Z=>?_;simp;apply Z;refine zI ?_ ?_<;>intro c3<;>try simp at c3
 .refine bE fun _ _ Z=>?_;refine zs 7 fun _ Y=>?_;simp;apply Y;refine aE fun _ Y=>?_;simp;refine cB (e2 (by omega)) ?_;apply Y;simp;apply Z;apply aD;simp [aK]
 refine bE fun _ _ Z=>?_;simp;apply Z;refine zI ?_ ?_<;>intro c4<;>try simp at c4
 .refine zk [0,3,4] ?_;refine bE fun _ _ Z=>?_;refine zs 5 fun _ Y=>?_;simp;apply Y;refine aE fun _ Y=>?_;simp;refine cB (e3 (by omega)) ?_;apply Y;simp;apply Z;apply aD;simp [aK]
 refine zk [0,3,4,7] ?_;refine bE fun _ _ Z=>?_;simp;apply Z;refine zI ?_ ?_<;>intro c5<;>try simp at c5
 .refine bE fun _ _ Z=>?_;refine zs 7 fun _ Y=>?_;simp;apply Y;refine aE fun _ Y=>?_;simp;refine cB (e4 (by omega)) ?_;apply Y;simp;apply Z;apply aD;simp [aK]
 refine bE fun _ _ Z=>?_;simp;apply Z;refine zI ?_ ?_<;>intro c6<;>try simp at c6
 .refine bE fun _ _ Z=>?_;refine zs 5 fun _ Y=>?_;simp;apply Y;refine aE fun _ Y=>?_;simp;refine cB (e5 (by omega)) ?_;apply Y;simp;apply Z;apply aD;simp [aK]
 refine bE fun _ _ Z=>?_;simp;apply Z;refine zI ?_ ?_<;>intro c7<;>try simp at c7
 .refine bE fun _ _ Z=>?_;refine zs 5 fun _ Y=>?_;simp;apply Y;refine aE fun _ Y=>?_;simp;refine cB (e6 (by omega)) ?_;apply Y;simp;apply Z;apply aD;simp [aK]
 apply mM;refine bE fun _ _ Z=>?_;refine zs 5 fun _ Y=>?_;simp;apply Y;refine aE fun _ Y=>?_;simp;refine cB (e7 (by omega)) ?_;apply Y;simp;apply Z;apply aD;simp [aK]
theorem aL9 (h:IV k m M d rk σ)(hk:k<=800)(i:Int):(aG d.x.l i).kids.length<=900:=by
 cases hl:eN d.x.l i with
 | false=>rw [jT hl];simp [Ud]
 | true=>
  obtain⟨n,n1,_,n3⟩:=fE hl;rw [n3];have:=(h.ip.sz n n1).1;omega
theorem aKo (h:IV k m M d rk σ)(i:Int):(aG d.x.l i).kids.Nodup:=by
 cases hl:eN d.x.l i with
 | false=>rw [jT hl];exact Ab
 | true=>
  obtain⟨n,n1,_,n3⟩:=fE hl;rw [n3];exact h.wt.kn n n1
theorem aM1 (h:IV k m M d rk σ)(i:Int):Sorted nA (aG d.x.l i).attrs:=by
 cases hl:eN d.x.l i with
 | false=>rw [jT hl];exact List.Pairwise.nil
 | true=>
  obtain⟨n,n1,_,n3⟩:=fE hl;rw [n3];exact(h.ip.st n n1).1
theorem aOh (h:IV k m M d rk σ)(i:Int):Sorted nP (aG d.x.l i).styles:=by
 cases hl:eN d.x.l i with
 | false=>rw [jT hl];exact List.Pairwise.nil
 | true=>
  obtain⟨n,n1,_,n3⟩:=fE hl;rw [n3];exact(h.ip.st n n1).2
theorem Xz(a:Act):(dG a).name.size<=20/\(dG a).value.size<=40:=⟨uL 20 a.name,uL 40 a.value⟩
theorem aVp(m:Nat)(x y:RD)(n c:Int)(a:Act)(bel bel2:Int->List Int)(rk:Int->Nat)(σ2:List (List D))(σ:List (List D))(hx:NB x.l)(hnx:0<=x.next/\x.next<=1000000)(htr:Tr x.l bel rk)(htr2:Tr (remP x.l (dG a).a) bel2 rk)(hkl:∀i,(aG x.l i).kids.length<=900)(hkn:∀i,(aG x.l i).kids.Nodup)(hsa:∀i,Sorted nA (aG x.l i).attrs)(hss:∀i,Sorted nP (aG x.l i).styles)(e0:(dG a).kind=0->Ct prog 133 [.ref m 0,D.str (dG a).name] σ (fun r τ=>r= .tup [D.int n,D.int c]/\τ=σ2)/\addX x 2 (dG a).name=(y,n,c))(e1:(dG a).kind=1->Ct prog 135 [.ref m 0,D.str (dG a).value] σ (fun r τ=>r= .tup [D.int n,D.int c]/\τ=σ2)/\addX x 1 (dG a).value=(y,n,c))(e2:(dG a).kind=2->Ct prog 136 [.ref m 0,D.int (dG a).a,D.int (dG a).b,D.int (dG a).c] σ (fun r τ=>r=D.int c/\τ=σ2)/\insX x bel (dG a).a (dG a).b (dG a).c=(y,c))(e3:(dG a).kind=3->Ct prog 138 [.ref m 0,D.int (dG a).a,D.int (dG a).b] σ (fun r τ=>r=D.int c/\τ=σ2)/\movX x (dG a).a (dG a).b=(y,c))(e4:(dG a).kind=4->Ct prog 140 [.ref m 0,D.int (dG a).a] σ (fun r τ=>r=D.int c/\τ=σ2)/\remX x bel2 (dG a).a=(y,c))(e5:10<=(dG a).kind/\(dG a).kind<=17->Ct prog 142 [.ref m 0,uA (dG a)] σ (fun r τ=>r=D.int c/\τ=σ2)/\setX x ((dG a).kind - 10) (dG a).a (dG a).name (dG a).value (dG a).c=(y,c))(e6:¬(0<=(dG a).kind/\(dG a).kind<=4)/\¬(10<=(dG a).kind/\(dG a).kind<=17)->y=x/\σ2=σ)(h1:a.name.size<=9223372036854775807)(h2:a.value.size<=9223372036854775807):Ct prog 60 [.ref m 0,gB x,uA a] σ (fun r σ'=>r= .tup [gB y,.bool true]/\σ'=σ2):=by
 refine zf func60 ?_;obtain⟨t1,t2⟩:=Xz a;refine bE fun _ _ Z=>?_;simp;apply Z;refine bE fun _ _ Z=>?_;refine zs 1 fun _ Y=>?_;simp;apply Y;refine aE fun _ Y=>?_;simp;refine cB (aPl a _ h1 h2) ?_;apply Y;simp;apply Z;refine bE fun _ _ Z=>?_;simp;apply Z;refine bE fun _ _ Z=>?_;simp;apply Z;apply Ea;refine zk [0,4,5,6,7,8,9,10,11,12] ?_;refine bE fun _ _ Z=>?_;simp;apply Z;refine zI ?_ ?_<;>intro c1<;>try simp at c1
 .refine zk [0,4,5,6,7,8,9,10,11,12] ?_;refine bE fun _ _ Z=>?_;refine zs 3 fun _ Y=>?_;simp;apply Y;refine aE fun _ Y=>?_;simp;refine cB (e0 (by omega)).1 ?_;apply Y;simp;apply Z;refine zk [4,5,6,7,8,9,10,11,12,13,14] ?_;refine bE fun _ _ Z=>?_;simp;apply Z;refine zk [4,5,6,7,8,9,10,11,12] ?_;refine rB fun _ _ Z=>?_;refine zs 3 fun _ Y=>?_;simp;apply Y;refine aE fun _ Y=>?_;simp;refine cB (Je x 2 (dG a).name _ hx hnx (by omega)) ?_;rw [(e0 (by omega)).2];apply Y;simp;apply Z;apply zB;refine zk [6,7,8,9,10,11,12] ?_;refine pB ⟨[],[],[],[],[]⟩ fun all hall _ Z=>?_;have ga4:aT all 4=some 151:=hall 4;refine zs 5 fun _ Y=>?_;simp[ga4];apply Y;refine zb 151 ?_ ?_<;>intro g2<;>try simp at g2
  simp[ga4];apply Z;apply aD;simp [aK]
 refine zk [0,4,5,6,7,8,9,10,11,12] ?_;refine bE fun _ _ Z=>?_;simp;apply Z;refine zI ?_ ?_<;>intro c3<;>try simp at c3
 .refine zk [0,4,5,6,7,8,9,10,11,12] ?_;refine bE fun _ _ Z=>?_;refine zs 3 fun _ Y=>?_;simp;apply Y;refine aE fun _ Y=>?_;simp;refine cB (e1 (by omega)).1 ?_;apply Y;simp;apply Z;refine zk [4,5,6,7,8,9,10,11,12,15,16] ?_;refine bE fun _ _ Z=>?_;simp;apply Z;refine zk [4,5,6,7,8,9,10,11,12] ?_;refine rB fun _ _ Z=>?_;refine zs 3 fun _ Y=>?_;simp;apply Y;refine aE fun _ Y=>?_;simp;refine cB (Je x 1 (dG a).value _ hx hnx (by omega)) ?_;rw [(e1 (by omega)).2];apply Y;simp;apply Z;apply zB;refine zk [6,7,8,9,10,11,12] ?_;refine pB ⟨[],[],[],[],[]⟩ fun all hall _ Z=>?_;have ga4:aT all 4=some 151:=hall 4;refine zs 5 fun _ Y=>?_;simp[ga4];apply Y;refine zb 151 ?_ ?_<;>intro g4<;>try simp at g4
  simp[ga4];apply Z;apply aD;simp [aK]
 refine zk [0,4,5,6,7,8,9,10,11,12] ?_;refine bE fun _ _ Z=>?_;simp;apply Z;refine zI ?_ ?_<;>intro c5<;>try simp at c5
 .refine zk [0,4,5,6,7,8,9,10,11,12] ?_;refine bE fun _ _ Z=>?_;refine zs 7 fun _ Y=>?_;simp;apply Y;refine aE fun _ Y=>?_;simp;refine cB (e2 (by omega)).1 ?_;apply Y;simp;apply Z;refine zk [4,5,6,7,8,9,10,11,12] ?_;refine rB fun _ _ Z=>?_;refine zs 7 fun _ Y=>?_;simp;apply Y;refine aE fun _ Y=>?_;simp;refine cB (aC6 x (dG a).a (dG a).b (dG a).c bel rk _ hx htr (hkl _)) ?_;rw [(e2 (by omega)).2];apply Y;simp;apply Z;apply zB;refine zk [6,7,8,9,10,11,12] ?_;refine pB ⟨[],[],[],[],[]⟩ fun all hall _ Z=>?_;have ga4:aT all 4=some 151:=hall 4;refine zs 5 fun _ Y=>?_;simp[ga4];apply Y;refine zb 151 ?_ ?_<;>intro g6<;>try simp at g6
  simp[ga4];apply Z;apply aD;simp [aK]
 refine zk [0,4,5,6,7,8,9,10,11,12] ?_;refine bE fun _ _ Z=>?_;simp;apply Z;refine zI ?_ ?_<;>intro c7<;>try simp at c7
 .refine zk [0,4,5,6,7,8,9,10,11,12] ?_;refine bE fun _ _ Z=>?_;refine zs 5 fun _ Y=>?_;simp;apply Y;refine aE fun _ Y=>?_;simp;refine cB (e3 (by omega)).1 ?_;apply Y;simp;apply Z;refine zk [4,5,6,7,8,9,10,11,12] ?_;refine rB fun _ _ Z=>?_;refine zs 5 fun _ Y=>?_;simp;apply Y;refine aE fun _ Y=>?_;simp;refine cB (aCd x (dG a).a (dG a).b _ hx (hkn _)) ?_;rw [(e3 (by omega)).2];apply Y;simp;apply Z;apply zB;refine zk [6,7,8,9,10,11,12] ?_;refine pB ⟨[],[],[],[],[]⟩ fun all hall _ Z=>?_;have ga4:aT all 4=some 151:=hall 4;refine zs 5 fun _ Y=>?_;simp[ga4];apply Y;refine zb 151 ?_ ?_<;>intro g8<;>try simp at g8
  simp[ga4];apply Z;apply aD;simp [aK]
 refine zk [0,4,5,6,7,8,9,10,11,12] ?_;refine bE fun _ _ Z=>?_;simp;apply Z;refine zI ?_ ?_<;>intro c9<;>try simp at c9
 .refine zk [0,4,5,6,7,8,9,10,11,12] ?_;refine bE fun _ _ Z=>?_;refine zs 3 fun _ Y=>?_;simp;apply Y;refine aE fun _ Y=>?_;simp;refine cB (e4 (by omega)).1 ?_;apply Y;simp;apply Z;refine zk [4,5,6,7,8,9,10,11,12] ?_;refine rB fun _ _ Z=>?_;refine zs 3 fun _ Y=>?_;simp;apply Y;refine aE fun _ Y=>?_;simp;refine cB (aB8 x (dG a).a bel2 rk _ hx htr2) ?_;rw [(e4 (by omega)).2];apply Y;simp;apply Z;apply zB;refine zk [6,7,8,9,10,11,12] ?_;refine pB ⟨[],[],[],[],[]⟩ fun all hall _ Z=>?_;have ga4:aT all 4=some 151:=hall 4;refine zs 5 fun _ Y=>?_;simp[ga4];apply Y;refine zb 151 ?_ ?_<;>intro g10<;>try simp at g10
  simp[ga4];apply Z;apply aD;simp [aK]
 refine zk [0,4,5,6,7,8,9,10,11,12] ?_;refine pB ⟨[],[],[],[],[]⟩ fun all hall _ Z=>?_;have ga3:aT all 3=some 123:=hall 3;refine zs 4 fun _ Y=>?_;simp[ga3];apply Y;refine zb 123 ?_ ?_<;>intro g11<;>try simp at g11
 .simp[ga3];apply Z;refine zI ?_ ?_<;>intro c12<;>try simp at c12
  .refine zk [0,4,5,6,7,8,9,10,11,12] ?_;refine bE fun _ _ Z=>?_;refine zs 2 fun _ Y=>?_;simp;apply Y;refine aE fun _ Y=>?_;simp;refine cB (e5 (by omega)).1 ?_;apply Y;simp;apply Z;refine zk [4,5,6,7,8,9,10,11,12] ?_;refine rB fun _ _ Z=>?_;refine zs 8 fun _ Y=>?_;simp;and_intros<;>(try omega);apply Y;refine zs 4 fun _ Y=>?_;simp;apply Y;refine aE fun _ Y=>?_;simp;refine cB (aBw x ((dG a).kind - 10) (dG a).a (dG a).name (dG a).value (dG a).c _ hx (by omega) (hsa _) (hss _)) ?_;rw [(e5 (by omega)).2];apply Y;simp;apply Z;apply zB;refine zk [6,7,8,9,10,11,12] ?_;refine pB ⟨[],[],[],[],[]⟩ fun all hall _ Z=>?_;have ga4:aT all 4=some 151:=hall 4;refine zs 5 fun _ Y=>?_;simp[ga4];apply Y;refine zb 151 ?_ ?_<;>intro g13<;>try simp at g13
   simp[ga4];apply Z;apply aD;simp [aK]
  apply mM;refine zk [6,7,8,9,10,11,12] ?_;refine pB ⟨[],[],[],[],[]⟩ fun all hall _ Z=>?_;have ga4:aT all 4=some 151:=hall 4;refine zs 5 fun _ Y=>?_;simp[ga4];apply Y;refine zb 151 ?_ ?_<;>intro g14<;>try simp at g14
  simp[ga4];apply Z;apply aD;obtain⟨q1,q2⟩:=e6 (by omega);subst q1;subst q2;simp [aK]
 simp[ga3];apply Z;refine bS (t:=false) (by simp) (fun h=>by cases h) (fun _=>?_);apply mM;refine zk [6,7,8,9,10,11,12] ?_;refine pB ⟨[],[],[],[],[]⟩ fun all hall _ Z=>?_;have ga4:aT all 4=some 151:=hall 4;refine zs 5 fun _ Y=>?_;simp[ga4];apply Y;refine zb 151 ?_ ?_<;>intro g15<;>try simp at g15
 simp[ga4];apply Z;apply aD;obtain⟨q1,q2⟩:=e6 (by omega);subst q1;subst q2;simp [aK]
end Go.Proofs.YtbgfljpnhhdkoaaGreat
