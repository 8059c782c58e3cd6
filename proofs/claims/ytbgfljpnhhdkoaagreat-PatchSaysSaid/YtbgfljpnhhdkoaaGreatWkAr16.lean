import Derived.Test.YtbgfljpnhhdkoaaGreatArPerm
open Go.Proofs.Tryz
namespace Go.Proofs.YtbgfljpnhhdkoaaGreat
open Go Go.Vm
set_option maxRecDepth 20000
set_option linter.all false
set_option maxHeartbeats 8000000
structure Act where
 kind:Int
 a:Int
 b:Int
 c:Int
 name:ByteArray
 value:ByteArray
 deriving DecidableEq
@[simp] abbrev mK(s:Act):D:= .agg [.v (.int .i64 s.kind),.v (.int .i64 s.a),.v (.int .i64 s.b),.v (.int .i64 s.c),.v (.string s.name),.v (.string s.value)]
def bZ(a:Act):Act:= { a with name:=Fh 20 a.name,value:=Fh 40 a.value }
def d0(most:Int)(o:Nat):DS:=⟨max 1 (min most 65536),1,1, [⟨mH,o,0⟩]⟩
theorem qQ(x:Int):Bs x 1 65536=max 1 (min x 65536):=by
 unfold Bs;(repeat' split) <;> omega
theorem aKp(most:Int)(σ:List (List D)):IV 0 (σ.length+1) σ.length (d0 most (σ.length+2)) (fun _=>0) (σ++ [[],mL σ.length (d0 most (σ.length+2)),dX mH]):=by
 have hl:(d0 most (σ.length+2)).l= [mH]:=rfl;have hm:∀n∈(d0 most (σ.length+2)).l,n=mH:=fun n hn=>by rw [hl] at hn;simpa using hn
 have hwt:WT (d0 most (σ.length+2)).l (fun _=>0):=by
  refine⟨by rw [hl];simp,fun n hn k hk=>?_,fun n hn=>?_,fun n hn=>?_,fun n hn=>?_,fun n hn k hk=>?_⟩ <;> have:=hm n hn <;> subst this
  ·cases hk
  ·exact .inl rfl
  ·exact Int.le_refl _
  ·exact List.nodup_nil
  cases hk
 refine⟨⟨by simp,fun e he=>?_,fun e he=>?_,by simp [d0],by simp⟩,⟨hwt.nd,by simp [d0],?_,by simp [d0],fun n hn=>?_,fun n hn=>?_,fun n hn=>?_,⟨mH,by rw [hl];simp,rfl,rfl,rfl⟩,fun n hn=>?_,?_⟩,hwt⟩
 ·simp only [d0,List.mem_singleton] at he;subst he;simp
 ·simp only [d0,List.mem_singleton] at he;subst he;show σ.length+2≠σ.length+1;omega
 ·show 1≤max 1 (min most 65536)∧max 1 (min most 65536)≤65536;omega
 ·have:=hm n hn;subst this;show(0:Int)<1;omega
 ·have:=hm n hn;subst this;simp [mH]
 ·have:=hm n hn;subst this;exact⟨List.Pairwise.nil,List.Pairwise.nil⟩
 ·have:=hm n hn;subst this;exact .inr rfl
 show(([_]:List EN).length:Int) - 1≤max 1 (min most 65536);simp;omega
theorem aEe(most:Int)(σ:List (List D))  :Ct prog 58 [D.int most] σ (fun r σ'=>r= .ref (σ.length+1) 0∧σ'=σ++ [[],mL σ.length (d0 most (σ.length+2)),dX mH]):=by
 refine zf (rs:=[.tmp 2]) func58 ntmps58 results58 ?_;simp only [aO];refine zr ⟨[],[],[8,14],[],[]⟩ fun _ _ Z=>?_;simp[aT,aP,aM,aG,qQ];apply Z;refine zr ⟨[],[],[8,14],[],[]⟩ fun _ _ Z=>?_;refine zs 1 fun _ Y=>?_;simp[aT,aP,aM,aG,qQ];apply Y;refine aD fun _ Y=>?_;simp[aT,aP,aM,aG,qQ];refine cD (aDh ..) ?_;apply Y;simp[aT,aP,aM,aG,qQ];and_intros<;>(try omega);apply Z;refine Bl 6 (σ.length+1) 2 (N:=σ.length) (kd:= .int .i64) (clock:=0) (kvs:= []) (by simp) (by simp [aT,aP,aM,aG] <;> rfl) (by simp <;> rfl) ?_;simp only [aP,List.set_cons_zero,List.set_cons_succ];refine zr ⟨[],[],[8,14],[],[]⟩ fun _ _ Z=>?_;simp[aT,aP,aM,aG,qQ];refine⟨σ.length+1,2,0, [],1,_,⟨⟨_,by simp [aT,aP,aM,aG] <;> rfl,rfl⟩,iB _,rfl,.inr ⟨by simp,rfl,rfl⟩⟩,?_⟩;rw [Ew (by simp [aT,aP,aM,aG] <;> rfl)];and_intros<;>(try omega);apply Z;refine pM (σ.length+2) 8 1 (by simp [aT,aP,aM,aG];rfl) rfl ?_;simp only [aP,List.set_cons_zero,List.set_cons_succ];refine Dz (σ.length+2) (dX mH) (by simp [aT,aP,aM,aG];rfl) (by simp [leC,mH,D.s1]) ?_;simp only [aP,List.set_cons_zero,List.set_cons_succ];refine zk [2,3] ?_;refine zr ⟨[],[],[8,14],[],[]⟩ fun _ _ Z=>?_;simp[aT,aP,aM,aG,qQ];apply Z;apply aB;simp [aJ,d0,Gu,mH,mL]
theorem aEt(a:Act)(σ:List (List D))(h1:a.name.size≤9223372036854775807)(h2:a.value.size≤9223372036854775807):Ct prog 132 [mK a] σ (fun r σ'=>r=mK (bZ a)∧σ'=σ):=by
 refine zf (rs:=[.cell 2 25]) func132 ntmps132 results132 ?_;simp only [aO];refine aV fun _ _ Z=>?_;simp;apply Z;refine zd ⟨[],[],[],[],[]⟩ [.op {},.op {rL:=true},.pure,.op {},.op {rL:=true},.pure,.op {},.op {rL:=true,wL:=true},.op {},.op {rL:=true,wL:=true}] fun all hall _ Z=>?_;refine dJ 2 fun _ Y=>?_;simp;apply Y;refine cG fun _ Y=>?_;simp;refine Cr (fun _=>(Fi a.name 20 _ (by omega))) ?_;apply Y;refine dJ 2 fun _ Y=>?_;simp;apply Y;refine cG fun _ Y=>?_;simp;refine Cr (fun _=>(Fi a.value 40 _ (by omega))) ?_;apply Y;simp;apply Z;refine aV fun _ _ Z=>?_;simp;apply Z;apply aB;simp [aJ,bZ]
theorem iO(m:Nat)(a:Act)(c:Int)(σ2:List (List D))(σ:List (List D))(hb:10≤a.kind∧a.kind≤17)(e0:a.kind=10→Ct prog 163 [.ref m 0,D.int a.a,D.str a.name] σ (fun r τ=>r=D.int c∧τ=σ2))(e1:a.kind=11→Ct prog 164 [.ref m 0,D.int a.a,D.str a.value] σ (fun r τ=>r=D.int c∧τ=σ2))(e2:a.kind=12→Ct prog 199 [.ref m 0,D.int a.a,D.str a.name,D.str a.value] σ (fun r τ=>r=D.int c∧τ=σ2))(e3:a.kind=13→Ct prog 200 [.ref m 0,D.int a.a,D.str a.name] σ (fun r τ=>r=D.int c∧τ=σ2))(e4:a.kind=14→Ct prog 202 [.ref m 0,D.int a.a,D.str a.name,D.int a.c] σ (fun r τ=>r=D.int c∧τ=σ2))(e5:a.kind=15→Ct prog 203 [.ref m 0,D.int a.a,D.str a.name] σ (fun r τ=>r=D.int c∧τ=σ2))(e6:a.kind=16→Ct prog 197 [.ref m 0,D.int a.a,D.str a.name] σ (fun r τ=>r=D.int c∧τ=σ2))(e7:a.kind=17→Ct prog 196 [.ref m 0,D.int a.a,D.str a.name] σ (fun r τ=>r=D.int c∧τ=σ2)):Ct prog 142 [.ref m 0,mK a] σ (fun r σ'=>r=D.int c∧σ'=σ2):=by
 refine zf (rs:=[.tmp 4]) func142 ntmps142 results142 ?_;simp only [aO];refine aV fun _ _ Z=>?_;simp;apply Z;apply aC;refine aV fun _ _ Z=>?_;simp;and_intros<;>(try omega);apply Z;apply aH;refine aV fun _ _ Z=>?_;simp;apply Z;refine zi ?_;refine⟨fun c1=>?_,fun c1=>?_⟩
 ·try simp at c1
  refine aV fun _ _ Z=>?_;refine zs 5 fun _ Y=>?_;simp;apply Y;refine aD fun _ Y=>?_;simp;refine cD (e0 (by omega)) ?_;apply Y;simp;apply Z;apply aB;apply aQ;apply aI;simp [aJ]
 try simp at c1
 refine aV fun _ _ Z=>?_;simp;apply Z;refine zi ?_;refine⟨fun c2=>?_,fun c2=>?_⟩
 ·try simp at c2
  refine aV fun _ _ Z=>?_;refine zs 5 fun _ Y=>?_;simp;apply Y;refine aD fun _ Y=>?_;simp;refine cD (e1 (by omega)) ?_;apply Y;simp;apply Z;apply aB;apply aQ;apply aI;simp [aJ]
 try simp at c2
 refine aV fun _ _ Z=>?_;simp;apply Z;refine zi ?_;refine⟨fun c3=>?_,fun c3=>?_⟩
 ·try simp at c3
  refine aV fun _ _ Z=>?_;refine zs 7 fun _ Y=>?_;simp;apply Y;refine aD fun _ Y=>?_;simp;refine cD (e2 (by omega)) ?_;apply Y;simp;apply Z;apply aB;apply aQ;apply aI;simp [aJ]
 try simp at c3
 refine aV fun _ _ Z=>?_;simp;apply Z;refine zi ?_;refine⟨fun c4=>?_,fun c4=>?_⟩
 ·try simp at c4
  refine zk [0,3,4] ?_;refine aV fun _ _ Z=>?_;refine zs 5 fun _ Y=>?_;simp;apply Y;refine aD fun _ Y=>?_;simp;refine cD (e3 (by omega)) ?_;apply Y;simp;apply Z;apply aB;apply aQ;apply aI;simp [aJ]
 try simp at c4
 refine zk [0,3,4,7] ?_;refine aV fun _ _ Z=>?_;simp;apply Z;refine zi ?_;refine⟨fun c5=>?_,fun c5=>?_⟩
 ·try simp at c5
  refine aV fun _ _ Z=>?_;refine zs 7 fun _ Y=>?_;simp;apply Y;refine aD fun _ Y=>?_;simp;refine cD (e4 (by omega)) ?_;apply Y;simp;apply Z;apply aB;apply aQ;apply aI;simp [aJ]
 try simp at c5
 refine aV fun _ _ Z=>?_;simp;apply Z;refine zi ?_;refine⟨fun c6=>?_,fun c6=>?_⟩
 ·try simp at c6
  refine aV fun _ _ Z=>?_;refine zs 5 fun _ Y=>?_;simp;apply Y;refine aD fun _ Y=>?_;simp;refine cD (e5 (by omega)) ?_;apply Y;simp;apply Z;apply aB;apply aQ;apply aI;simp [aJ]
 try simp at c6
 refine aV fun _ _ Z=>?_;simp;apply Z;refine zi ?_;refine⟨fun c7=>?_,fun c7=>?_⟩
 ·try simp at c7
  refine aV fun _ _ Z=>?_;refine zs 5 fun _ Y=>?_;simp;apply Y;refine aD fun _ Y=>?_;simp;refine cD (e6 (by omega)) ?_;apply Y;simp;apply Z;apply aB;apply aQ;apply aI;simp [aJ]
 try simp at c7
 apply aE;apply aL;apply aA;refine aV fun _ _ Z=>?_;refine zs 5 fun _ Y=>?_;simp;apply Y;refine aD fun _ Y=>?_;simp;refine cD (e7 (by omega)) ?_;apply Y;simp;apply Z;apply aB;simp [aJ]
theorem Zb {k m M:Nat} {d:DS} {rk:Int→Nat} {σ:List (List D)} (h:IV k m M d rk σ)(hk:k≤800)(i:Int):(aF d.x.l i).kids.length≤900:=by
 cases hl:cX d.x.l i with
 | false=>rw [fC hl];simp [Ej]
 | true=>
  obtain⟨n,n1,_,n3⟩:=cY hl;rw [n3];have:=(h.ip.sz n n1).1;omega
theorem aBx {k m M:Nat} {d:DS} {rk:Int→Nat} {σ:List (List D)} (h:IV k m M d rk σ)(i:Int):(aF d.x.l i).kids.Nodup:=by
 cases hl:cX d.x.l i with
 | false=>rw [fC hl];exact List.nodup_nil
 | true=>
  obtain⟨n,n1,_,n3⟩:=cY hl;rw [n3];exact h.wt.kn n n1
theorem Ce {k m M:Nat} {d:DS} {rk:Int→Nat} {σ:List (List D)} (h:IV k m M d rk σ)(i:Int):cK nA (aF d.x.l i).attrs:=by
 cases hl:cX d.x.l i with
 | false=>rw [fC hl];exact List.Pairwise.nil
 | true=>
  obtain⟨n,n1,_,n3⟩:=cY hl;rw [n3];exact(h.ip.st n n1).1
theorem Cg {k m M:Nat} {d:DS} {rk:Int→Nat} {σ:List (List D)} (h:IV k m M d rk σ)(i:Int):cK nP (aF d.x.l i).styles:=by
 cases hl:cX d.x.l i with
 | false=>rw [fC hl];exact List.Pairwise.nil
 | true=>
  obtain⟨n,n1,_,n3⟩:=cY hl;rw [n3];exact(h.ip.st n n1).2
theorem Hn(a:Act):(bZ a).name.size≤20∧(bZ a).value.size≤40:=⟨sS 20 a.name,sS 40 a.value⟩
theorem aI4(m:Nat)(x y:RD)(n c:Int)(a:Act)(bel bel2:Int→List Int)(rk:Int→Nat)(σ2:List (List D))(σ:List (List D))(hx:NB x.l)(hnx:0≤x.next∧x.next≤1000000)(htr:Tr x.l bel rk)(htr2:Tr (remP x.l (bZ a).a) bel2 rk)(hkl:∀i,(aF x.l i).kids.length≤900)(hkn:∀i,(aF x.l i).kids.Nodup)(hsa:∀i,cK nA (aF x.l i).attrs)(hss:∀i,cK nP (aF x.l i).styles)(e0:(bZ a).kind=0→Ct prog 133 [.ref m 0,D.str (bZ a).name] σ (fun r τ=>r= .tup [D.int n,D.int c]∧τ=σ2)∧addX x 2 (bZ a).name=(y,n,c))(e1:(bZ a).kind=1→Ct prog 135 [.ref m 0,D.str (bZ a).value] σ (fun r τ=>r= .tup [D.int n,D.int c]∧τ=σ2)∧addX x 1 (bZ a).value=(y,n,c))(e2:(bZ a).kind=2→Ct prog 136 [.ref m 0,D.int (bZ a).a,D.int (bZ a).b,D.int (bZ a).c] σ (fun r τ=>r=D.int c∧τ=σ2)∧insX x bel (bZ a).a (bZ a).b (bZ a).c=(y,c))(e3:(bZ a).kind=3→Ct prog 138 [.ref m 0,D.int (bZ a).a,D.int (bZ a).b] σ (fun r τ=>r=D.int c∧τ=σ2)∧movX x (bZ a).a (bZ a).b=(y,c))(e4:(bZ a).kind=4→Ct prog 140 [.ref m 0,D.int (bZ a).a] σ (fun r τ=>r=D.int c∧τ=σ2)∧remX x bel2 (bZ a).a=(y,c))(e5:10≤(bZ a).kind∧(bZ a).kind≤17→Ct prog 142 [.ref m 0,mK (bZ a)] σ (fun r τ=>r=D.int c∧τ=σ2)∧setX x ((bZ a).kind - 10) (bZ a).a (bZ a).name (bZ a).value (bZ a).c=(y,c))(e6:¬(0≤(bZ a).kind∧(bZ a).kind≤4)∧¬(10≤(bZ a).kind∧(bZ a).kind≤17)→y=x∧σ2=σ)(h1:a.name.size≤9223372036854775807)(h2:a.value.size≤9223372036854775807):Ct prog 60 [.ref m 0,dO x,mK a] σ (fun r σ'=>r= .tup [dO y,.bool true]∧σ'=σ2):=by
 refine zf (rs:=[.cell 6 30,.tmp 7]) func60 ntmps60 results60 ?_;simp only [aO];obtain⟨t1,t2⟩:=Hn a;refine aV fun _ _ Z=>?_;simp;apply Z;refine aV fun _ _ Z=>?_;refine zs 1 fun _ Y=>?_;simp;apply Y;refine aD fun _ Y=>?_;simp;refine cD (aEt a _ h1 h2) ?_;apply Y;simp;apply Z;refine aV fun _ _ Z=>?_;simp;apply Z;refine aV fun _ _ Z=>?_;simp;apply Z;apply aC;apply aH;refine zk [0,4,5,6,7,8,9,10,11,12] ?_;refine aV fun _ _ Z=>?_;simp;apply Z;refine zi ?_;refine⟨fun c1=>?_,fun c1=>?_⟩
 ·try simp at c1
  refine zk [0,4,5,6,7,8,9,10,11,12] ?_;refine aV fun _ _ Z=>?_;refine zs 3 fun _ Y=>?_;simp;apply Y;refine aD fun _ Y=>?_;simp;refine cD (e0 (by omega)).1 ?_;apply Y;simp;apply Z;refine zk [4,5,6,7,8,9,10,11,12,13,14] ?_;refine aV fun _ _ Z=>?_;simp;apply Z;refine zk [4,5,6,7,8,9,10,11,12] ?_;refine rH fun _ _ Z=>?_;refine zs 3 fun _ Y=>?_;simp;apply Y;refine aD fun _ Y=>?_;simp;refine cD (yC x 2 (bZ a).name _ hx hnx (by omega)) ?_;rw [(e0 (by omega)).2];apply Y;simp;apply Z;apply aL;apply aA;refine zk [6,7,8,9,10,11,12] ?_;refine kF ⟨[],[],[],[],[]⟩ fun all hall _ Z=>?_;have ga4:aN all 4=some 151:=hall 4;refine zs 5 fun _ Y=>?_;simp[ga4];apply Y;refine aR 151 (by simp <;> rfl) ?_;refine⟨fun g2=>?_,fun g2=>?_⟩
  ·try simp at g2
   simp[ga4];apply Z;apply aB;simp [aJ]
  simp at g2
 try simp at c1
 refine zk [0,4,5,6,7,8,9,10,11,12] ?_;refine aV fun _ _ Z=>?_;simp;apply Z;refine zi ?_;refine⟨fun c3=>?_,fun c3=>?_⟩
 ·try simp at c3
  refine zk [0,4,5,6,7,8,9,10,11,12] ?_;refine aV fun _ _ Z=>?_;refine zs 3 fun _ Y=>?_;simp;apply Y;refine aD fun _ Y=>?_;simp;refine cD (e1 (by omega)).1 ?_;apply Y;simp;apply Z;refine zk [4,5,6,7,8,9,10,11,12,15,16] ?_;refine aV fun _ _ Z=>?_;simp;apply Z;refine zk [4,5,6,7,8,9,10,11,12] ?_;refine rH fun _ _ Z=>?_;refine zs 3 fun _ Y=>?_;simp;apply Y;refine aD fun _ Y=>?_;simp;refine cD (yC x 1 (bZ a).value _ hx hnx (by omega)) ?_;rw [(e1 (by omega)).2];apply Y;simp;apply Z;apply aL;apply aA;refine zk [6,7,8,9,10,11,12] ?_;refine kF ⟨[],[],[],[],[]⟩ fun all hall _ Z=>?_;have ga4:aN all 4=some 151:=hall 4;refine zs 5 fun _ Y=>?_;simp[ga4];apply Y;refine aR 151 (by simp <;> rfl) ?_;refine⟨fun g4=>?_,fun g4=>?_⟩
  ·try simp at g4
   simp[ga4];apply Z;apply aB;simp [aJ]
  simp at g4
 try simp at c3
 refine zk [0,4,5,6,7,8,9,10,11,12] ?_;refine aV fun _ _ Z=>?_;simp;apply Z;refine zi ?_;refine⟨fun c5=>?_,fun c5=>?_⟩
 ·try simp at c5
  refine zk [0,4,5,6,7,8,9,10,11,12] ?_;refine aV fun _ _ Z=>?_;refine zs 7 fun _ Y=>?_;simp;apply Y;refine aD fun _ Y=>?_;simp;refine cD (e2 (by omega)).1 ?_;apply Y;simp;apply Z;refine zk [4,5,6,7,8,9,10,11,12] ?_;refine rH fun _ _ Z=>?_;refine zs 7 fun _ Y=>?_;simp;apply Y;refine aD fun _ Y=>?_;simp;refine cD (Qj x (bZ a).a (bZ a).b (bZ a).c bel rk _ hx htr (hkl _)) ?_;rw [(e2 (by omega)).2];apply Y;simp;apply Z;apply aL;apply aA;refine zk [6,7,8,9,10,11,12] ?_;refine kF ⟨[],[],[],[],[]⟩ fun all hall _ Z=>?_;have ga4:aN all 4=some 151:=hall 4;refine zs 5 fun _ Y=>?_;simp[ga4];apply Y;refine aR 151 (by simp <;> rfl) ?_;refine⟨fun g6=>?_,fun g6=>?_⟩
  ·try simp at g6
   simp[ga4];apply Z;apply aB;simp [aJ]
  simp at g6
 try simp at c5
 refine zk [0,4,5,6,7,8,9,10,11,12] ?_;refine aV fun _ _ Z=>?_;simp;apply Z;refine zi ?_;refine⟨fun c7=>?_,fun c7=>?_⟩
 ·try simp at c7
  refine zk [0,4,5,6,7,8,9,10,11,12] ?_;refine aV fun _ _ Z=>?_;refine zs 5 fun _ Y=>?_;simp;apply Y;refine aD fun _ Y=>?_;simp;refine cD (e3 (by omega)).1 ?_;apply Y;simp;apply Z;refine zk [4,5,6,7,8,9,10,11,12] ?_;refine rH fun _ _ Z=>?_;refine zs 5 fun _ Y=>?_;simp;apply Y;refine aD fun _ Y=>?_;simp;refine cD (Pg x (bZ a).a (bZ a).b _ hx (hkn _)) ?_;rw [(e3 (by omega)).2];apply Y;simp;apply Z;apply aL;apply aA;refine zk [6,7,8,9,10,11,12] ?_;refine kF ⟨[],[],[],[],[]⟩ fun all hall _ Z=>?_;have ga4:aN all 4=some 151:=hall 4;refine zs 5 fun _ Y=>?_;simp[ga4];apply Y;refine aR 151 (by simp <;> rfl) ?_;refine⟨fun g8=>?_,fun g8=>?_⟩
  ·try simp at g8
   simp[ga4];apply Z;apply aB;simp [aJ]
  simp at g8
 try simp at c7
 refine zk [0,4,5,6,7,8,9,10,11,12] ?_;refine aV fun _ _ Z=>?_;simp;apply Z;refine zi ?_;refine⟨fun c9=>?_,fun c9=>?_⟩
 ·try simp at c9
  refine zk [0,4,5,6,7,8,9,10,11,12] ?_;refine aV fun _ _ Z=>?_;refine zs 3 fun _ Y=>?_;simp;apply Y;refine aD fun _ Y=>?_;simp;refine cD (e4 (by omega)).1 ?_;apply Y;simp;apply Z;refine zk [4,5,6,7,8,9,10,11,12] ?_;refine rH fun _ _ Z=>?_;refine zs 3 fun _ Y=>?_;simp;apply Y;refine aD fun _ Y=>?_;simp;refine cD (Qk x (bZ a).a bel2 rk _ hx htr2) ?_;rw [(e4 (by omega)).2];apply Y;simp;apply Z;apply aL;apply aA;refine zk [6,7,8,9,10,11,12] ?_;refine kF ⟨[],[],[],[],[]⟩ fun all hall _ Z=>?_;have ga4:aN all 4=some 151:=hall 4;refine zs 5 fun _ Y=>?_;simp[ga4];apply Y;refine aR 151 (by simp <;> rfl) ?_;refine⟨fun g10=>?_,fun g10=>?_⟩
  ·try simp at g10
   simp[ga4];apply Z;apply aB;simp [aJ]
  simp at g10
 try simp at c9
 refine zk [0,4,5,6,7,8,9,10,11,12] ?_;refine kF ⟨[],[],[],[],[]⟩ fun all hall _ Z=>?_;have ga3:aN all 3=some 123:=hall 3;refine zs 4 fun _ Y=>?_;simp[ga3];apply Y;refine aR 123 (by simp <;> rfl) ?_;refine⟨fun g11=>?_,fun g11=>?_⟩
 ·try simp at g11
  simp[ga3];apply Z;refine zi ?_;refine⟨fun c12=>?_,fun c12=>?_⟩
  ·try simp at c12
   refine zk [0,4,5,6,7,8,9,10,11,12] ?_;refine aV fun _ _ Z=>?_;refine zs 2 fun _ Y=>?_;simp;apply Y;refine aD fun _ Y=>?_;simp;refine cD (e5 (by omega)).1 ?_;apply Y;simp;apply Z;refine zk [4,5,6,7,8,9,10,11,12] ?_;refine rH fun _ _ Z=>?_;refine zs 8 fun _ Y=>?_;simp;and_intros<;>(try omega);apply Y;refine zs 4 fun _ Y=>?_;simp;apply Y;refine aD fun _ Y=>?_;simp;refine cD (qS x ((bZ a).kind - 10) (bZ a).a (bZ a).name (bZ a).value (bZ a).c _ hx (by omega) (hsa _) (hss _)) ?_;rw [(e5 (by omega)).2];apply Y;simp;apply Z;apply aL;apply aA;refine zk [6,7,8,9,10,11,12] ?_;refine kF ⟨[],[],[],[],[]⟩ fun all hall _ Z=>?_;have ga4:aN all 4=some 151:=hall 4;refine zs 5 fun _ Y=>?_;simp[ga4];apply Y;refine aR 151 (by simp <;> rfl) ?_;refine⟨fun g13=>?_,fun g13=>?_⟩
   ·try simp at g13
    simp[ga4];apply Z;apply aB;simp [aJ]
   simp at g13
  try simp at c12
  apply aE;apply aL;apply aA;refine zk [6,7,8,9,10,11,12] ?_;refine kF ⟨[],[],[],[],[]⟩ fun all hall _ Z=>?_;have ga4:aN all 4=some 151:=hall 4;refine zs 5 fun _ Y=>?_;simp[ga4];apply Y;refine aR 151 (by simp <;> rfl) ?_;refine⟨fun g14=>?_,fun g14=>?_⟩
  ·try simp at g14
   simp[ga4];apply Z;apply aB;obtain⟨q1,q2⟩:=e6 (by omega);subst q1;subst q2;simp [aJ]
  simp at g14
 try simp at g11
 simp[ga3];apply Z;refine bD (t:=false) (by simp) (fun h=>by cases h) (fun _=>?_);apply aE;apply aL;apply aA;refine zk [6,7,8,9,10,11,12] ?_;refine kF ⟨[],[],[],[],[]⟩ fun all hall _ Z=>?_;have ga4:aN all 4=some 151:=hall 4;refine zs 5 fun _ Y=>?_;simp[ga4];apply Y;refine aR 151 (by simp <;> rfl) ?_;refine⟨fun g15=>?_,fun g15=>?_⟩
 ·try simp at g15
  simp[ga4];apply Z;apply aB;obtain⟨q1,q2⟩:=e6 (by omega);subst q1;subst q2;simp [aJ]
 simp at g15
end Go.Proofs.YtbgfljpnhhdkoaaGreat
