import Derived.Test.YtbgfljpnhhdkoaaGreatArPerm
open Go.Proofs.Tryz
namespace Go.Proofs.YtbgfljpnhhdkoaaGreat
open Go Go.Vm
set_option maxRecDepth 20000
set_option linter.all false
set_option maxHeartbeats 8000000
structure Act where
 kind:Int
 a:Int
 b:Int
 c:Int
 name:ByteArray
 value:ByteArray
 deriving DecidableEq
@[simp] abbrev nC(s:Act):D:= .agg [.v (.int .i64 s.kind),.v (.int .i64 s.a),.v (.int .i64 s.b),.v (.int .i64 s.c),.v (.string s.name),.v (.string s.value)]
def bY(a:Act):Act:= { a with name:=Np 20 a.name,value:=Np 40 a.value }
def d0(most:Int)(o:Nat):DS:=⟨max 1 (min most 65536),1,1, [⟨mQ,o,0⟩]⟩
theorem qX(x:Int):Cf x 1 65536=max 1 (min x 65536):=by
 unfold Cf;(repeat' split) <;> omega
theorem aLe(most:Int)(σ:List (List D)):IV 0 (σ.length+1) σ.length (d0 most (σ.length+2)) (fun _=>0) (σ++ [[],mF σ.length (d0 most (σ.length+2)),dV mQ]):=by
 have hl:(d0 most (σ.length+2)).l= [mQ]:=rfl;have hm:∀n∈(d0 most (σ.length+2)).l,n=mQ:=fun n hn=>by rw [hl] at hn;simpa using hn
 have hwt:WT (d0 most (σ.length+2)).l (fun _=>0):=by
  refine⟨by rw [hl];simp,fun n hn k hk=>?_,fun n hn=>?_,fun n hn=>?_,fun n hn=>?_,fun n hn k hk=>?_⟩ <;> have:=hm n hn <;> subst this
  ·cases hk
  ·exact .inl rfl
  ·exact Int.le_refl _
  ·exact List.nodup_nil
  cases hk
 refine⟨⟨by simp,fun e he=>?_,fun e he=>?_,by simp [d0],by simp⟩,⟨hwt.nd,by simp [d0],?_,by simp [d0],fun n hn=>?_,fun n hn=>?_,fun n hn=>?_,⟨mQ,by rw [hl];simp,rfl,rfl,rfl⟩,fun n hn=>?_,?_⟩,hwt⟩
 ·simp only [d0,List.mem_singleton] at he;subst he;simp
 ·simp only [d0,List.mem_singleton] at he;subst he;show σ.length+2≠σ.length+1;omega
 ·show 1≤max 1 (min most 65536)∧max 1 (min most 65536)≤65536;omega
 ·have:=hm n hn;subst this;show(0:Int)<1;omega
 ·have:=hm n hn;subst this;simp [mQ]
 ·have:=hm n hn;subst this;exact⟨List.Pairwise.nil,List.Pairwise.nil⟩
 ·have:=hm n hn;subst this;exact .inr rfl
 show(([_]:List EN).length:Int) - 1≤max 1 (min most 65536);simp;omega
theorem aFt(most:Int)(σ:List (List D))  :Ct prog 58 [D.int most] σ (fun r σ'=>r= .ref (σ.length+1) 0∧σ'=σ++ [[],mF σ.length (d0 most (σ.length+2)),dV mQ]):=by
 refine zf (rs:=[.tmp 2]) func58 ntmps58 results58 ?_;simp only [aN];refine zr ⟨[],[],[8,14],[],[]⟩ fun _ _ Z=>?_;simp[aU,aQ,aM,aJ,qX];apply Z;refine zr ⟨[],[],[8,14],[],[]⟩ fun _ _ Z=>?_;refine zs 1 fun _ Y=>?_;simp[aU,aQ,aM,aJ,qX];apply Y;refine aE fun _ Y=>?_;simp[aU,aQ,aM,aJ,qX];refine bX (aFf ..) ?_;apply Y;simp[aU,aQ,aM,aJ,qX];and_intros<;>(try omega);apply Z;refine Cn 6 (σ.length+1) 2 (N:=σ.length) (kd:= .int .i64) (clock:=0) (kvs:= []) (by simp) (by simp [aU,aQ,aM,aJ] <;> rfl) (by simp <;> rfl) ?_;simp only [aQ,List.set_cons_zero,List.set_cons_succ];refine zr ⟨[],[],[8,14],[],[]⟩ fun _ _ Z=>?_;simp[aU,aQ,aM,aJ,qX];refine⟨σ.length+1,2,0, [],1,_,⟨⟨_,by simp [aU,aQ,aM,aJ] <;> rfl,rfl⟩,iF _,rfl,.inr ⟨by simp,rfl,rfl⟩⟩,?_⟩;rw [Hn (by simp [aU,aQ,aM,aJ] <;> rfl)];and_intros<;>(try omega);apply Z;refine qS (σ.length+2) 8 1 (by simp [aU,aQ,aM,aJ];rfl) rfl ?_;simp only [aQ,List.set_cons_zero,List.set_cons_succ];refine Cy (σ.length+2) (dV mQ) (by simp [aU,aQ,aM,aJ];rfl) (by simp [leC,mQ,D.s1]) ?_;simp only [aQ,List.set_cons_zero,List.set_cons_succ];refine zk [2,3] ?_;refine zr ⟨[],[],[8,14],[],[]⟩ fun _ _ Z=>?_;simp[aU,aQ,aM,aJ,qX];apply Z;apply aC;simp [aK,d0,Ho,mQ,mF]
theorem aE3(a:Act)(σ:List (List D))(h1:a.name.size≤9223372036854775807)(h2:a.value.size≤9223372036854775807):Ct prog 132 [nC a] σ (fun r σ'=>r=nC (bY a)∧σ'=σ):=by
 refine zf (rs:=[.cell 2 25]) func132 ntmps132 results132 ?_;simp only [aN];refine aW fun _ _ Z=>?_;simp;apply Z;refine zd ⟨[],[],[],[],[]⟩ [.op {},.op {rL:=true},.pure,.op {},.op {rL:=true},.pure,.op {},.op {rL:=true,wL:=true},.op {},.op {rL:=true,wL:=true}] fun all hall _ Z=>?_;refine eR 2 fun _ Y=>?_;simp;apply Y;refine dI fun _ Y=>?_;simp;refine Hp (fun _=>(aBq a.name 20 _ (by omega))) ?_;apply Y;refine eR 2 fun _ Y=>?_;simp;apply Y;refine dI fun _ Y=>?_;simp;refine Hp (fun _=>(aBq a.value 40 _ (by omega))) ?_;apply Y;simp;apply Z;refine aW fun _ _ Z=>?_;simp;apply Z;apply aC;simp [aK,bY]
theorem iR(m:Nat)(a:Act)(c:Int)(σ2:List (List D))(σ:List (List D))(hb:10≤a.kind∧a.kind≤17)(e0:a.kind=10→Ct prog 163 [.ref m 0,D.int a.a,D.str a.name] σ (fun r τ=>r=D.int c∧τ=σ2))(e1:a.kind=11→Ct prog 164 [.ref m 0,D.int a.a,D.str a.value] σ (fun r τ=>r=D.int c∧τ=σ2))(e2:a.kind=12→Ct prog 199 [.ref m 0,D.int a.a,D.str a.name,D.str a.value] σ (fun r τ=>r=D.int c∧τ=σ2))(e3:a.kind=13→Ct prog 200 [.ref m 0,D.int a.a,D.str a.name] σ (fun r τ=>r=D.int c∧τ=σ2))(e4:a.kind=14→Ct prog 202 [.ref m 0,D.int a.a,D.str a.name,D.int a.c] σ (fun r τ=>r=D.int c∧τ=σ2))(e5:a.kind=15→Ct prog 203 [.ref m 0,D.int a.a,D.str a.name] σ (fun r τ=>r=D.int c∧τ=σ2))(e6:a.kind=16→Ct prog 197 [.ref m 0,D.int a.a,D.str a.name] σ (fun r τ=>r=D.int c∧τ=σ2))(e7:a.kind=17→Ct prog 196 [.ref m 0,D.int a.a,D.str a.name] σ (fun r τ=>r=D.int c∧τ=σ2)):Ct prog 142 [.ref m 0,nC a] σ (fun r σ'=>r=D.int c∧σ'=σ2):=by
 refine zf (rs:=[.tmp 4]) func142 ntmps142 results142 ?_;simp only [aN];refine aW fun _ _ Z=>?_;simp;apply Z;apply aB;refine aW fun _ _ Z=>?_;simp;and_intros<;>(try omega);apply Z;apply aF;refine aW fun _ _ Z=>?_;simp;apply Z;refine zi ?_;refine⟨fun c1=>?_,fun c1=>?_⟩
 ·try simp at c1
  refine aW fun _ _ Z=>?_;refine zs 5 fun _ Y=>?_;simp;apply Y;refine aE fun _ Y=>?_;simp;refine bX (e0 (by omega)) ?_;apply Y;simp;apply Z;apply aC;apply aP;apply aI;simp [aK]
 try simp at c1
 refine aW fun _ _ Z=>?_;simp;apply Z;refine zi ?_;refine⟨fun c2=>?_,fun c2=>?_⟩
 ·try simp at c2
  refine aW fun _ _ Z=>?_;refine zs 5 fun _ Y=>?_;simp;apply Y;refine aE fun _ Y=>?_;simp;refine bX (e1 (by omega)) ?_;apply Y;simp;apply Z;apply aC;apply aP;apply aI;simp [aK]
 try simp at c2
 refine aW fun _ _ Z=>?_;simp;apply Z;refine zi ?_;refine⟨fun c3=>?_,fun c3=>?_⟩
 ·try simp at c3
  refine aW fun _ _ Z=>?_;refine zs 7 fun _ Y=>?_;simp;apply Y;refine aE fun _ Y=>?_;simp;refine bX (e2 (by omega)) ?_;apply Y;simp;apply Z;apply aC;apply aP;apply aI;simp [aK]
 try simp at c3
 refine aW fun _ _ Z=>?_;simp;apply Z;refine zi ?_;refine⟨fun c4=>?_,fun c4=>?_⟩
 ·try simp at c4
  refine zk [0,3,4] ?_;refine aW fun _ _ Z=>?_;refine zs 5 fun _ Y=>?_;simp;apply Y;refine aE fun _ Y=>?_;simp;refine bX (e3 (by omega)) ?_;apply Y;simp;apply Z;apply aC;apply aP;apply aI;simp [aK]
 try simp at c4
 refine zk [0,3,4,7] ?_;refine aW fun _ _ Z=>?_;simp;apply Z;refine zi ?_;refine⟨fun c5=>?_,fun c5=>?_⟩
 ·try simp at c5
  refine aW fun _ _ Z=>?_;refine zs 7 fun _ Y=>?_;simp;apply Y;refine aE fun _ Y=>?_;simp;refine bX (e4 (by omega)) ?_;apply Y;simp;apply Z;apply aC;apply aP;apply aI;simp [aK]
 try simp at c5
 refine aW fun _ _ Z=>?_;simp;apply Z;refine zi ?_;refine⟨fun c6=>?_,fun c6=>?_⟩
 ·try simp at c6
  refine aW fun _ _ Z=>?_;refine zs 5 fun _ Y=>?_;simp;apply Y;refine aE fun _ Y=>?_;simp;refine bX (e5 (by omega)) ?_;apply Y;simp;apply Z;apply aC;apply aP;apply aI;simp [aK]
 try simp at c6
 refine aW fun _ _ Z=>?_;simp;apply Z;refine zi ?_;refine⟨fun c7=>?_,fun c7=>?_⟩
 ·try simp at c7
  refine aW fun _ _ Z=>?_;refine zs 5 fun _ Y=>?_;simp;apply Y;refine aE fun _ Y=>?_;simp;refine bX (e6 (by omega)) ?_;apply Y;simp;apply Z;apply aC;apply aP;apply aI;simp [aK]
 try simp at c7
 apply aD;apply aH;apply aA;refine aW fun _ _ Z=>?_;refine zs 5 fun _ Y=>?_;simp;apply Y;refine aE fun _ Y=>?_;simp;refine bX (e7 (by omega)) ?_;apply Y;simp;apply Z;apply aC;simp [aK]
theorem aBt {k m M:Nat} {d:DS} {rk:Int→Nat} {σ:List (List D)} (h:IV k m M d rk σ)(hk:k≤800)(i:Int):(aG d.x.l i).kids.length≤900:=by
 cases hl:cZ d.x.l i with
 | false=>rw [fF hl];simp [Hb]
 | true=>
  obtain⟨n,n1,_,n3⟩:=dM hl;rw [n3];have:=(h.ip.sz n n1).1;omega
theorem Xp {k m M:Nat} {d:DS} {rk:Int→Nat} {σ:List (List D)} (h:IV k m M d rk σ)(i:Int):(aG d.x.l i).kids.Nodup:=by
 cases hl:cZ d.x.l i with
 | false=>rw [fF hl];exact List.nodup_nil
 | true=>
  obtain⟨n,n1,_,n3⟩:=dM hl;rw [n3];exact h.wt.kn n n1
theorem aG7 {k m M:Nat} {d:DS} {rk:Int→Nat} {σ:List (List D)} (h:IV k m M d rk σ)(i:Int):cG nA (aG d.x.l i).attrs:=by
 cases hl:cZ d.x.l i with
 | false=>rw [fF hl];exact List.Pairwise.nil
 | true=>
  obtain⟨n,n1,_,n3⟩:=dM hl;rw [n3];exact(h.ip.st n n1).1
theorem aG3 {k m M:Nat} {d:DS} {rk:Int→Nat} {σ:List (List D)} (h:IV k m M d rk σ)(i:Int):cG nP (aG d.x.l i).styles:=by
 cases hl:cZ d.x.l i with
 | false=>rw [fF hl];exact List.Pairwise.nil
 | true=>
  obtain⟨n,n1,_,n3⟩:=dM hl;rw [n3];exact(h.ip.st n n1).2
theorem Jb(a:Act):(bY a).name.size≤20∧(bY a).value.size≤40:=⟨Jp 20 a.name,Jp 40 a.value⟩
theorem aIi(m:Nat)(x y:RD)(n c:Int)(a:Act)(bel bel2:Int→List Int)(rk:Int→Nat)(σ2:List (List D))(σ:List (List D))(hx:NB x.l)(hnx:0≤x.next∧x.next≤1000000)(htr:Tr x.l bel rk)(htr2:Tr (remP x.l (bY a).a) bel2 rk)(hkl:∀i,(aG x.l i).kids.length≤900)(hkn:∀i,(aG x.l i).kids.Nodup)(hsa:∀i,cG nA (aG x.l i).attrs)(hss:∀i,cG nP (aG x.l i).styles)(e0:(bY a).kind=0→Ct prog 133 [.ref m 0,D.str (bY a).name] σ (fun r τ=>r= .tup [D.int n,D.int c]∧τ=σ2)∧addX x 2 (bY a).name=(y,n,c))(e1:(bY a).kind=1→Ct prog 135 [.ref m 0,D.str (bY a).value] σ (fun r τ=>r= .tup [D.int n,D.int c]∧τ=σ2)∧addX x 1 (bY a).value=(y,n,c))(e2:(bY a).kind=2→Ct prog 136 [.ref m 0,D.int (bY a).a,D.int (bY a).b,D.int (bY a).c] σ (fun r τ=>r=D.int c∧τ=σ2)∧insX x bel (bY a).a (bY a).b (bY a).c=(y,c))(e3:(bY a).kind=3→Ct prog 138 [.ref m 0,D.int (bY a).a,D.int (bY a).b] σ (fun r τ=>r=D.int c∧τ=σ2)∧movX x (bY a).a (bY a).b=(y,c))(e4:(bY a).kind=4→Ct prog 140 [.ref m 0,D.int (bY a).a] σ (fun r τ=>r=D.int c∧τ=σ2)∧remX x bel2 (bY a).a=(y,c))(e5:10≤(bY a).kind∧(bY a).kind≤17→Ct prog 142 [.ref m 0,nC (bY a)] σ (fun r τ=>r=D.int c∧τ=σ2)∧setX x ((bY a).kind - 10) (bY a).a (bY a).name (bY a).value (bY a).c=(y,c))(e6:¬(0≤(bY a).kind∧(bY a).kind≤4)∧¬(10≤(bY a).kind∧(bY a).kind≤17)→y=x∧σ2=σ)(h1:a.name.size≤9223372036854775807)(h2:a.value.size≤9223372036854775807):Ct prog 60 [.ref m 0,dS x,nC a] σ (fun r σ'=>r= .tup [dS y,.bool true]∧σ'=σ2):=by
 refine zf (rs:=[.cell 6 30,.tmp 7]) func60 ntmps60 results60 ?_;simp only [aN];obtain⟨t1,t2⟩:=Jb a;refine aW fun _ _ Z=>?_;simp;apply Z;refine aW fun _ _ Z=>?_;refine zs 1 fun _ Y=>?_;simp;apply Y;refine aE fun _ Y=>?_;simp;refine bX (aE3 a _ h1 h2) ?_;apply Y;simp;apply Z;refine aW fun _ _ Z=>?_;simp;apply Z;refine aW fun _ _ Z=>?_;simp;apply Z;apply aB;apply aF;refine zk [0,4,5,6,7,8,9,10,11,12] ?_;refine aW fun _ _ Z=>?_;simp;apply Z;refine zi ?_;refine⟨fun c1=>?_,fun c1=>?_⟩
 ·try simp at c1
  refine zk [0,4,5,6,7,8,9,10,11,12] ?_;refine aW fun _ _ Z=>?_;refine zs 3 fun _ Y=>?_;simp;apply Y;refine aE fun _ Y=>?_;simp;refine bX (e0 (by omega)).1 ?_;apply Y;simp;apply Z;refine zk [4,5,6,7,8,9,10,11,12,13,14] ?_;refine aW fun _ _ Z=>?_;simp;apply Z;refine zk [4,5,6,7,8,9,10,11,12] ?_;refine pP fun _ _ Z=>?_;refine zs 3 fun _ Y=>?_;simp;apply Y;refine aE fun _ Y=>?_;simp;refine bX (yP x 2 (bY a).name _ hx hnx (by omega)) ?_;rw [(e0 (by omega)).2];apply Y;simp;apply Z;apply aH;apply aA;refine zk [6,7,8,9,10,11,12] ?_;refine kX ⟨[],[],[],[],[]⟩ fun all hall _ Z=>?_;have ga4:aO all 4=some 151:=hall 4;refine zs 5 fun _ Y=>?_;simp[ga4];apply Y;refine aS 151 (by simp <;> rfl) ?_;refine⟨fun g2=>?_,fun g2=>?_⟩
  ·try simp at g2
   simp[ga4];apply Z;apply aC;simp [aK]
  simp at g2
 try simp at c1
 refine zk [0,4,5,6,7,8,9,10,11,12] ?_;refine aW fun _ _ Z=>?_;simp;apply Z;refine zi ?_;refine⟨fun c3=>?_,fun c3=>?_⟩
 ·try simp at c3
  refine zk [0,4,5,6,7,8,9,10,11,12] ?_;refine aW fun _ _ Z=>?_;refine zs 3 fun _ Y=>?_;simp;apply Y;refine aE fun _ Y=>?_;simp;refine bX (e1 (by omega)).1 ?_;apply Y;simp;apply Z;refine zk [4,5,6,7,8,9,10,11,12,15,16] ?_;refine aW fun _ _ Z=>?_;simp;apply Z;refine zk [4,5,6,7,8,9,10,11,12] ?_;refine pP fun _ _ Z=>?_;refine zs 3 fun _ Y=>?_;simp;apply Y;refine aE fun _ Y=>?_;simp;refine bX (yP x 1 (bY a).value _ hx hnx (by omega)) ?_;rw [(e1 (by omega)).2];apply Y;simp;apply Z;apply aH;apply aA;refine zk [6,7,8,9,10,11,12] ?_;refine kX ⟨[],[],[],[],[]⟩ fun all hall _ Z=>?_;have ga4:aO all 4=some 151:=hall 4;refine zs 5 fun _ Y=>?_;simp[ga4];apply Y;refine aS 151 (by simp <;> rfl) ?_;refine⟨fun g4=>?_,fun g4=>?_⟩
  ·try simp at g4
   simp[ga4];apply Z;apply aC;simp [aK]
  simp at g4
 try simp at c3
 refine zk [0,4,5,6,7,8,9,10,11,12] ?_;refine aW fun _ _ Z=>?_;simp;apply Z;refine zi ?_;refine⟨fun c5=>?_,fun c5=>?_⟩
 ·try simp at c5
  refine zk [0,4,5,6,7,8,9,10,11,12] ?_;refine aW fun _ _ Z=>?_;refine zs 7 fun _ Y=>?_;simp;apply Y;refine aE fun _ Y=>?_;simp;refine bX (e2 (by omega)).1 ?_;apply Y;simp;apply Z;refine zk [4,5,6,7,8,9,10,11,12] ?_;refine pP fun _ _ Z=>?_;refine zs 7 fun _ Y=>?_;simp;apply Y;refine aE fun _ Y=>?_;simp;refine bX (Pn x (bY a).a (bY a).b (bY a).c bel rk _ hx htr (hkl _)) ?_;rw [(e2 (by omega)).2];apply Y;simp;apply Z;apply aH;apply aA;refine zk [6,7,8,9,10,11,12] ?_;refine kX ⟨[],[],[],[],[]⟩ fun all hall _ Z=>?_;have ga4:aO all 4=some 151:=hall 4;refine zs 5 fun _ Y=>?_;simp[ga4];apply Y;refine aS 151 (by simp <;> rfl) ?_;refine⟨fun g6=>?_,fun g6=>?_⟩
  ·try simp at g6
   simp[ga4];apply Z;apply aC;simp [aK]
  simp at g6
 try simp at c5
 refine zk [0,4,5,6,7,8,9,10,11,12] ?_;refine aW fun _ _ Z=>?_;simp;apply Z;refine zi ?_;refine⟨fun c7=>?_,fun c7=>?_⟩
 ·try simp at c7
  refine zk [0,4,5,6,7,8,9,10,11,12] ?_;refine aW fun _ _ Z=>?_;refine zs 5 fun _ Y=>?_;simp;apply Y;refine aE fun _ Y=>?_;simp;refine bX (e3 (by omega)).1 ?_;apply Y;simp;apply Z;refine zk [4,5,6,7,8,9,10,11,12] ?_;refine pP fun _ _ Z=>?_;refine zs 5 fun _ Y=>?_;simp;apply Y;refine aE fun _ Y=>?_;simp;refine bX (Qf x (bY a).a (bY a).b _ hx (hkn _)) ?_;rw [(e3 (by omega)).2];apply Y;simp;apply Z;apply aH;apply aA;refine zk [6,7,8,9,10,11,12] ?_;refine kX ⟨[],[],[],[],[]⟩ fun all hall _ Z=>?_;have ga4:aO all 4=some 151:=hall 4;refine zs 5 fun _ Y=>?_;simp[ga4];apply Y;refine aS 151 (by simp <;> rfl) ?_;refine⟨fun g8=>?_,fun g8=>?_⟩
  ·try simp at g8
   simp[ga4];apply Z;apply aC;simp [aK]
  simp at g8
 try simp at c7
 refine zk [0,4,5,6,7,8,9,10,11,12] ?_;refine aW fun _ _ Z=>?_;simp;apply Z;refine zi ?_;refine⟨fun c9=>?_,fun c9=>?_⟩
 ·try simp at c9
  refine zk [0,4,5,6,7,8,9,10,11,12] ?_;refine aW fun _ _ Z=>?_;refine zs 3 fun _ Y=>?_;simp;apply Y;refine aE fun _ Y=>?_;simp;refine bX (e4 (by omega)).1 ?_;apply Y;simp;apply Z;refine zk [4,5,6,7,8,9,10,11,12] ?_;refine pP fun _ _ Z=>?_;refine zs 3 fun _ Y=>?_;simp;apply Y;refine aE fun _ Y=>?_;simp;refine bX (Qi x (bY a).a bel2 rk _ hx htr2) ?_;rw [(e4 (by omega)).2];apply Y;simp;apply Z;apply aH;apply aA;refine zk [6,7,8,9,10,11,12] ?_;refine kX ⟨[],[],[],[],[]⟩ fun all hall _ Z=>?_;have ga4:aO all 4=some 151:=hall 4;refine zs 5 fun _ Y=>?_;simp[ga4];apply Y;refine aS 151 (by simp <;> rfl) ?_;refine⟨fun g10=>?_,fun g10=>?_⟩
  ·try simp at g10
   simp[ga4];apply Z;apply aC;simp [aK]
  simp at g10
 try simp at c9
 refine zk [0,4,5,6,7,8,9,10,11,12] ?_;refine kX ⟨[],[],[],[],[]⟩ fun all hall _ Z=>?_;have ga3:aO all 3=some 123:=hall 3;refine zs 4 fun _ Y=>?_;simp[ga3];apply Y;refine aS 123 (by simp <;> rfl) ?_;refine⟨fun g11=>?_,fun g11=>?_⟩
 ·try simp at g11
  simp[ga3];apply Z;refine zi ?_;refine⟨fun c12=>?_,fun c12=>?_⟩
  ·try simp at c12
   refine zk [0,4,5,6,7,8,9,10,11,12] ?_;refine aW fun _ _ Z=>?_;refine zs 2 fun _ Y=>?_;simp;apply Y;refine aE fun _ Y=>?_;simp;refine bX (e5 (by omega)).1 ?_;apply Y;simp;apply Z;refine zk [4,5,6,7,8,9,10,11,12] ?_;refine pP fun _ _ Z=>?_;refine zs 8 fun _ Y=>?_;simp;and_intros<;>(try omega);apply Y;refine zs 4 fun _ Y=>?_;simp;apply Y;refine aE fun _ Y=>?_;simp;refine bX (Qn x ((bY a).kind - 10) (bY a).a (bY a).name (bY a).value (bY a).c _ hx (by omega) (hsa _) (hss _)) ?_;rw [(e5 (by omega)).2];apply Y;simp;apply Z;apply aH;apply aA;refine zk [6,7,8,9,10,11,12] ?_;refine kX ⟨[],[],[],[],[]⟩ fun all hall _ Z=>?_;have ga4:aO all 4=some 151:=hall 4;refine zs 5 fun _ Y=>?_;simp[ga4];apply Y;refine aS 151 (by simp <;> rfl) ?_;refine⟨fun g13=>?_,fun g13=>?_⟩
   ·try simp at g13
    simp[ga4];apply Z;apply aC;simp [aK]
   simp at g13
  try simp at c12
  apply aD;apply aH;apply aA;refine zk [6,7,8,9,10,11,12] ?_;refine kX ⟨[],[],[],[],[]⟩ fun all hall _ Z=>?_;have ga4:aO all 4=some 151:=hall 4;refine zs 5 fun _ Y=>?_;simp[ga4];apply Y;refine aS 151 (by simp <;> rfl) ?_;refine⟨fun g14=>?_,fun g14=>?_⟩
  ·try simp at g14
   simp[ga4];apply Z;apply aC;obtain⟨q1,q2⟩:=e6 (by omega);subst q1;subst q2;simp [aK]
  simp at g14
 try simp at g11
 simp[ga3];apply Z;refine bD (t:=false) (by simp) (fun h=>by cases h) (fun _=>?_);apply aD;apply aH;apply aA;refine zk [6,7,8,9,10,11,12] ?_;refine kX ⟨[],[],[],[],[]⟩ fun all hall _ Z=>?_;have ga4:aO all 4=some 151:=hall 4;refine zs 5 fun _ Y=>?_;simp[ga4];apply Y;refine aS 151 (by simp <;> rfl) ?_;refine⟨fun g15=>?_,fun g15=>?_⟩
 ·try simp at g15
  simp[ga4];apply Z;apply aC;obtain⟨q1,q2⟩:=e6 (by omega);subst q1;subst q2;simp [aK]
 simp at g15
end Go.Proofs.YtbgfljpnhhdkoaaGreat
