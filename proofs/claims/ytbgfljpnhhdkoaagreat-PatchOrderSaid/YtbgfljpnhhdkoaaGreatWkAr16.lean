import Derived.Test.YtbgfljpnhhdkoaaGreatArPerm
open Go.Proofs.Tryz
namespace Go.Proofs.YtbgfljpnhhdkoaaGreat
open Go Go.Vm
set_option maxRecDepth 20000
set_option linter.all false
set_option maxHeartbeats 8000000
structure Act where
 kind:Int
 a:Int
 b:Int
 c:Int
 name:ByteArray
 value:ByteArray
 deriving DecidableEq
@[simp] abbrev nQ(s:Act):D:= .agg [.v (.int .i64 s.kind),.v (.int .i64 s.a),.v (.int .i64 s.b),.v (.int .i64 s.c),.v (.string s.name),.v (.string s.value)]
def bX(a:Act):Act:= { a with name:=Lk 20 a.name,value:=Lk 40 a.value }
def d0(most:Int)(o:Nat):DS:=⟨max 1 (min most 65536),1,1, [⟨lM,o,0⟩]⟩
theorem rI(x:Int):Bw x 1 65536=max 1 (min x 65536):=by
 unfold Bw;(repeat' split) <;> omega
theorem aKv(most:Int)(σ:List (List D)):IV 0 (σ.length+1) σ.length (d0 most (σ.length+2)) (fun _=>0) (σ++ [[],mX σ.length (d0 most (σ.length+2)),eG lM]):=by
 have hl:(d0 most (σ.length+2)).l= [lM]:=rfl;have hm:∀n∈(d0 most (σ.length+2)).l,n=lM:=fun n hn=>by rw [hl] at hn;simpa using hn
 have hwt:WT (d0 most (σ.length+2)).l (fun _=>0):=by
  refine⟨by rw [hl];simp,fun n hn k hk=>?_,fun n hn=>?_,fun n hn=>?_,fun n hn=>?_,fun n hn k hk=>?_⟩ <;> have:=hm n hn <;> subst this
  ·cases hk
  ·exact .inl rfl
  ·exact Int.le_refl _
  ·exact List.nodup_nil
  cases hk
 refine⟨⟨by simp,fun e he=>?_,fun e he=>?_,by simp [d0],by simp⟩,⟨hwt.nd,by simp [d0],?_,by simp [d0],fun n hn=>?_,fun n hn=>?_,fun n hn=>?_,⟨lM,by rw [hl];simp,rfl,rfl,rfl⟩,fun n hn=>?_,?_⟩,hwt⟩
 ·simp only [d0,List.mem_singleton] at he;subst he;simp
 ·simp only [d0,List.mem_singleton] at he;subst he;show σ.length+2≠σ.length+1;omega
 ·show 1≤max 1 (min most 65536)∧max 1 (min most 65536)≤65536;omega
 ·have:=hm n hn;subst this;show(0:Int)<1;omega
 ·have:=hm n hn;subst this;simp [lM]
 ·have:=hm n hn;subst this;exact⟨List.Pairwise.nil,List.Pairwise.nil⟩
 ·have:=hm n hn;subst this;exact .inr rfl
 show(([_]:List EN).length:Int) - 1≤max 1 (min most 65536);simp;omega
theorem aF6(most:Int)(σ:List (List D))  :Ct prog 58 [D.int most] σ (fun r σ'=>r= .ref (σ.length+1) 0∧σ'=σ++ [[],mX σ.length (d0 most (σ.length+2)),eG lM]):=by
 refine zf (rs:=[.tmp 2]) func58 ntmps58 results58 ?_;simp only [aN];refine zr ⟨[],[],[8,14],[],[]⟩ fun _ _ Z=>?_;simp[aV,aP,aM,aH,rI];apply Z;refine zr ⟨[],[],[8,14],[],[]⟩ fun _ _ Z=>?_;refine zs 1 fun _ Y=>?_;simp[aV,aP,aM,aH,rI];apply Y;refine aD fun _ Y=>?_;simp[aV,aP,aM,aH,rI];refine cH (aEi ..) ?_;apply Y;simp[aV,aP,aM,aH,rI];and_intros<;>(try omega);apply Z;refine By 6 (σ.length+1) 2 (N:=σ.length) (kd:= .int .i64) (clock:=0) (kvs:= []) (by simp) (by simp [aV,aP,aM,aH] <;> rfl) (by simp <;> rfl) ?_;simp only [aP,List.set_cons_zero,List.set_cons_succ];refine zr ⟨[],[],[8,14],[],[]⟩ fun _ _ Z=>?_;simp[aV,aP,aM,aH,rI];refine⟨σ.length+1,2,0, [],1,_,⟨⟨_,by simp [aV,aP,aM,aH] <;> rfl,rfl⟩,iZ _,rfl,.inr ⟨by simp,rfl,rfl⟩⟩,?_⟩;rw [Fg (by simp [aV,aP,aM,aH] <;> rfl)];and_intros<;>(try omega);apply Z;refine tM (σ.length+2) 8 1 (by simp [aV,aP,aM,aH];rfl) rfl ?_;simp only [aP,List.set_cons_zero,List.set_cons_succ];refine Cz (σ.length+2) (eG lM) (by simp [aV,aP,aM,aH];rfl) (by simp [leC,lM,D.s1]) ?_;simp only [aP,List.set_cons_zero,List.set_cons_succ];refine zk [2,3] ?_;refine zr ⟨[],[],[8,14],[],[]⟩ fun _ _ Z=>?_;simp[aV,aP,aM,aH,rI];apply Z;apply aB;simp [aL,d0,Hd,lM,mX]
theorem aD1(a:Act)(σ:List (List D))(h1:a.name.size≤9223372036854775807)(h2:a.value.size≤9223372036854775807):Ct prog 132 [nQ a] σ (fun r σ'=>r=nQ (bX a)∧σ'=σ):=by
 refine zf (rs:=[.cell 2 25]) func132 ntmps132 results132 ?_;simp only [aN];refine aY fun _ _ Z=>?_;simp;apply Z;refine zd ⟨[],[],[],[],[]⟩ [.op {},.op {rL:=true},.pure,.op {},.op {rL:=true},.pure,.op {},.op {rL:=true,wL:=true},.op {},.op {rL:=true,wL:=true}] fun all hall _ Z=>?_;refine jD 2 fun _ Y=>?_;simp;apply Y;refine dR fun _ Y=>?_;simp;refine To (fun _=>(aCf a.name 20 _ (by omega))) ?_;apply Y;refine jD 2 fun _ Y=>?_;simp;apply Y;refine dR fun _ Y=>?_;simp;refine To (fun _=>(aCf a.value 40 _ (by omega))) ?_;apply Y;simp;apply Z;refine aY fun _ _ Z=>?_;simp;apply Z;apply aB;simp [aL,bX]
theorem iP(m:Nat)(a:Act)(c:Int)(σ2:List (List D))(σ:List (List D))(hb:10≤a.kind∧a.kind≤17)(e0:a.kind=10→Ct prog 163 [.ref m 0,D.int a.a,D.str a.name] σ (fun r τ=>r=D.int c∧τ=σ2))(e1:a.kind=11→Ct prog 164 [.ref m 0,D.int a.a,D.str a.value] σ (fun r τ=>r=D.int c∧τ=σ2))(e2:a.kind=12→Ct prog 199 [.ref m 0,D.int a.a,D.str a.name,D.str a.value] σ (fun r τ=>r=D.int c∧τ=σ2))(e3:a.kind=13→Ct prog 200 [.ref m 0,D.int a.a,D.str a.name] σ (fun r τ=>r=D.int c∧τ=σ2))(e4:a.kind=14→Ct prog 202 [.ref m 0,D.int a.a,D.str a.name,D.int a.c] σ (fun r τ=>r=D.int c∧τ=σ2))(e5:a.kind=15→Ct prog 203 [.ref m 0,D.int a.a,D.str a.name] σ (fun r τ=>r=D.int c∧τ=σ2))(e6:a.kind=16→Ct prog 197 [.ref m 0,D.int a.a,D.str a.name] σ (fun r τ=>r=D.int c∧τ=σ2))(e7:a.kind=17→Ct prog 196 [.ref m 0,D.int a.a,D.str a.name] σ (fun r τ=>r=D.int c∧τ=σ2)):Ct prog 142 [.ref m 0,nQ a] σ (fun r σ'=>r=D.int c∧σ'=σ2):=by
 refine zf (rs:=[.tmp 4]) func142 ntmps142 results142 ?_;simp only [aN];refine aY fun _ _ Z=>?_;simp;apply Z;apply aC;refine aY fun _ _ Z=>?_;simp;and_intros<;>(try omega);apply Z;apply aG;refine aY fun _ _ Z=>?_;simp;apply Z;refine zi ?_;refine⟨fun c1=>?_,fun c1=>?_⟩
 ·try simp at c1
  refine aY fun _ _ Z=>?_;refine zs 5 fun _ Y=>?_;simp;apply Y;refine aD fun _ Y=>?_;simp;refine cH (e0 (by omega)) ?_;apply Y;simp;apply Z;apply aB;apply aQ;apply aJ;simp [aL]
 try simp at c1
 refine aY fun _ _ Z=>?_;simp;apply Z;refine zi ?_;refine⟨fun c2=>?_,fun c2=>?_⟩
 ·try simp at c2
  refine aY fun _ _ Z=>?_;refine zs 5 fun _ Y=>?_;simp;apply Y;refine aD fun _ Y=>?_;simp;refine cH (e1 (by omega)) ?_;apply Y;simp;apply Z;apply aB;apply aQ;apply aJ;simp [aL]
 try simp at c2
 refine aY fun _ _ Z=>?_;simp;apply Z;refine zi ?_;refine⟨fun c3=>?_,fun c3=>?_⟩
 ·try simp at c3
  refine aY fun _ _ Z=>?_;refine zs 7 fun _ Y=>?_;simp;apply Y;refine aD fun _ Y=>?_;simp;refine cH (e2 (by omega)) ?_;apply Y;simp;apply Z;apply aB;apply aQ;apply aJ;simp [aL]
 try simp at c3
 refine aY fun _ _ Z=>?_;simp;apply Z;refine zi ?_;refine⟨fun c4=>?_,fun c4=>?_⟩
 ·try simp at c4
  refine zk [0,3,4] ?_;refine aY fun _ _ Z=>?_;refine zs 5 fun _ Y=>?_;simp;apply Y;refine aD fun _ Y=>?_;simp;refine cH (e3 (by omega)) ?_;apply Y;simp;apply Z;apply aB;apply aQ;apply aJ;simp [aL]
 try simp at c4
 refine zk [0,3,4,7] ?_;refine aY fun _ _ Z=>?_;simp;apply Z;refine zi ?_;refine⟨fun c5=>?_,fun c5=>?_⟩
 ·try simp at c5
  refine aY fun _ _ Z=>?_;refine zs 7 fun _ Y=>?_;simp;apply Y;refine aD fun _ Y=>?_;simp;refine cH (e4 (by omega)) ?_;apply Y;simp;apply Z;apply aB;apply aQ;apply aJ;simp [aL]
 try simp at c5
 refine aY fun _ _ Z=>?_;simp;apply Z;refine zi ?_;refine⟨fun c6=>?_,fun c6=>?_⟩
 ·try simp at c6
  refine aY fun _ _ Z=>?_;refine zs 5 fun _ Y=>?_;simp;apply Y;refine aD fun _ Y=>?_;simp;refine cH (e5 (by omega)) ?_;apply Y;simp;apply Z;apply aB;apply aQ;apply aJ;simp [aL]
 try simp at c6
 refine aY fun _ _ Z=>?_;simp;apply Z;refine zi ?_;refine⟨fun c7=>?_,fun c7=>?_⟩
 ·try simp at c7
  refine aY fun _ _ Z=>?_;refine zs 5 fun _ Y=>?_;simp;apply Y;refine aD fun _ Y=>?_;simp;refine cH (e6 (by omega)) ?_;apply Y;simp;apply Z;apply aB;apply aQ;apply aJ;simp [aL]
 try simp at c7
 apply aE;apply aK;apply aA;refine aY fun _ _ Z=>?_;refine zs 5 fun _ Y=>?_;simp;apply Y;refine aD fun _ Y=>?_;simp;refine cH (e7 (by omega)) ?_;apply Y;simp;apply Z;apply aB;simp [aL]
theorem aC2 {k m M:Nat} {d:DS} {rk:Int→Nat} {σ:List (List D)} (h:IV k m M d rk σ)(hk:k≤800)(i:Int):(aF d.x.l i).kids.length≤900:=by
 cases hl:dF d.x.l i with
 | false=>rw [fK hl];simp [Ew]
 | true=>
  obtain⟨n,n1,_,n3⟩:=dQ hl;rw [n3];have:=(h.ip.sz n n1).1;omega
theorem aCq {k m M:Nat} {d:DS} {rk:Int→Nat} {σ:List (List D)} (h:IV k m M d rk σ)(i:Int):(aF d.x.l i).kids.Nodup:=by
 cases hl:dF d.x.l i with
 | false=>rw [fK hl];exact List.nodup_nil
 | true=>
  obtain⟨n,n1,_,n3⟩:=dQ hl;rw [n3];exact h.wt.kn n n1
theorem aG5 {k m M:Nat} {d:DS} {rk:Int→Nat} {σ:List (List D)} (h:IV k m M d rk σ)(i:Int):cJ nA (aF d.x.l i).attrs:=by
 cases hl:dF d.x.l i with
 | false=>rw [fK hl];exact List.Pairwise.nil
 | true=>
  obtain⟨n,n1,_,n3⟩:=dQ hl;rw [n3];exact(h.ip.st n n1).1
theorem aGy {k m M:Nat} {d:DS} {rk:Int→Nat} {σ:List (List D)} (h:IV k m M d rk σ)(i:Int):cJ nP (aF d.x.l i).styles:=by
 cases hl:dF d.x.l i with
 | false=>rw [fK hl];exact List.Pairwise.nil
 | true=>
  obtain⟨n,n1,_,n3⟩:=dQ hl;rw [n3];exact(h.ip.st n n1).2
theorem Iu(a:Act):(bX a).name.size≤20∧(bX a).value.size≤40:=⟨Kk 20 a.name,Kk 40 a.value⟩
theorem aJn(m:Nat)(x y:RD)(n c:Int)(a:Act)(bel bel2:Int→List Int)(rk:Int→Nat)(σ2:List (List D))(σ:List (List D))(hx:NB x.l)(hnx:0≤x.next∧x.next≤1000000)(htr:Tr x.l bel rk)(htr2:Tr (remP x.l (bX a).a) bel2 rk)(hkl:∀i,(aF x.l i).kids.length≤900)(hkn:∀i,(aF x.l i).kids.Nodup)(hsa:∀i,cJ nA (aF x.l i).attrs)(hss:∀i,cJ nP (aF x.l i).styles)(e0:(bX a).kind=0→Ct prog 133 [.ref m 0,D.str (bX a).name] σ (fun r τ=>r= .tup [D.int n,D.int c]∧τ=σ2)∧addX x 2 (bX a).name=(y,n,c))(e1:(bX a).kind=1→Ct prog 135 [.ref m 0,D.str (bX a).value] σ (fun r τ=>r= .tup [D.int n,D.int c]∧τ=σ2)∧addX x 1 (bX a).value=(y,n,c))(e2:(bX a).kind=2→Ct prog 136 [.ref m 0,D.int (bX a).a,D.int (bX a).b,D.int (bX a).c] σ (fun r τ=>r=D.int c∧τ=σ2)∧insX x bel (bX a).a (bX a).b (bX a).c=(y,c))(e3:(bX a).kind=3→Ct prog 138 [.ref m 0,D.int (bX a).a,D.int (bX a).b] σ (fun r τ=>r=D.int c∧τ=σ2)∧movX x (bX a).a (bX a).b=(y,c))(e4:(bX a).kind=4→Ct prog 140 [.ref m 0,D.int (bX a).a] σ (fun r τ=>r=D.int c∧τ=σ2)∧remX x bel2 (bX a).a=(y,c))(e5:10≤(bX a).kind∧(bX a).kind≤17→Ct prog 142 [.ref m 0,nQ (bX a)] σ (fun r τ=>r=D.int c∧τ=σ2)∧setX x ((bX a).kind - 10) (bX a).a (bX a).name (bX a).value (bX a).c=(y,c))(e6:¬(0≤(bX a).kind∧(bX a).kind≤4)∧¬(10≤(bX a).kind∧(bX a).kind≤17)→y=x∧σ2=σ)(h1:a.name.size≤9223372036854775807)(h2:a.value.size≤9223372036854775807):Ct prog 60 [.ref m 0,eN x,nQ a] σ (fun r σ'=>r= .tup [eN y,.bool true]∧σ'=σ2):=by
 refine zf (rs:=[.cell 6 30,.tmp 7]) func60 ntmps60 results60 ?_;simp only [aN];obtain⟨t1,t2⟩:=Iu a;refine aY fun _ _ Z=>?_;simp;apply Z;refine aY fun _ _ Z=>?_;refine zs 1 fun _ Y=>?_;simp;apply Y;refine aD fun _ Y=>?_;simp;refine cH (aD1 a _ h1 h2) ?_;apply Y;simp;apply Z;refine aY fun _ _ Z=>?_;simp;apply Z;refine aY fun _ _ Z=>?_;simp;apply Z;apply aC;apply aG;refine zk [0,4,5,6,7,8,9,10,11,12] ?_;refine aY fun _ _ Z=>?_;simp;apply Z;refine zi ?_;refine⟨fun c1=>?_,fun c1=>?_⟩
 ·try simp at c1
  refine zk [0,4,5,6,7,8,9,10,11,12] ?_;refine aY fun _ _ Z=>?_;refine zs 3 fun _ Y=>?_;simp;apply Y;refine aD fun _ Y=>?_;simp;refine cH (e0 (by omega)).1 ?_;apply Y;simp;apply Z;refine zk [4,5,6,7,8,9,10,11,12,13,14] ?_;refine aY fun _ _ Z=>?_;simp;apply Z;refine zk [4,5,6,7,8,9,10,11,12] ?_;refine yL fun _ _ Z=>?_;refine zs 3 fun _ Y=>?_;simp;apply Y;refine aD fun _ Y=>?_;simp;refine cH (yJ x 2 (bX a).name _ hx hnx (by omega)) ?_;rw [(e0 (by omega)).2];apply Y;simp;apply Z;apply aK;apply aA;refine zk [6,7,8,9,10,11,12] ?_;refine mY ⟨[],[],[],[],[]⟩ fun all hall _ Z=>?_;have ga4:aR all 4=some 151:=hall 4;refine zs 5 fun _ Y=>?_;simp[ga4];apply Y;refine aU 151 (by simp <;> rfl) ?_;refine⟨fun g2=>?_,fun g2=>?_⟩
  ·try simp at g2
   simp[ga4];apply Z;apply aB;simp [aL]
  simp at g2
 try simp at c1
 refine zk [0,4,5,6,7,8,9,10,11,12] ?_;refine aY fun _ _ Z=>?_;simp;apply Z;refine zi ?_;refine⟨fun c3=>?_,fun c3=>?_⟩
 ·try simp at c3
  refine zk [0,4,5,6,7,8,9,10,11,12] ?_;refine aY fun _ _ Z=>?_;refine zs 3 fun _ Y=>?_;simp;apply Y;refine aD fun _ Y=>?_;simp;refine cH (e1 (by omega)).1 ?_;apply Y;simp;apply Z;refine zk [4,5,6,7,8,9,10,11,12,15,16] ?_;refine aY fun _ _ Z=>?_;simp;apply Z;refine zk [4,5,6,7,8,9,10,11,12] ?_;refine yL fun _ _ Z=>?_;refine zs 3 fun _ Y=>?_;simp;apply Y;refine aD fun _ Y=>?_;simp;refine cH (yJ x 1 (bX a).value _ hx hnx (by omega)) ?_;rw [(e1 (by omega)).2];apply Y;simp;apply Z;apply aK;apply aA;refine zk [6,7,8,9,10,11,12] ?_;refine mY ⟨[],[],[],[],[]⟩ fun all hall _ Z=>?_;have ga4:aR all 4=some 151:=hall 4;refine zs 5 fun _ Y=>?_;simp[ga4];apply Y;refine aU 151 (by simp <;> rfl) ?_;refine⟨fun g4=>?_,fun g4=>?_⟩
  ·try simp at g4
   simp[ga4];apply Z;apply aB;simp [aL]
  simp at g4
 try simp at c3
 refine zk [0,4,5,6,7,8,9,10,11,12] ?_;refine aY fun _ _ Z=>?_;simp;apply Z;refine zi ?_;refine⟨fun c5=>?_,fun c5=>?_⟩
 ·try simp at c5
  refine zk [0,4,5,6,7,8,9,10,11,12] ?_;refine aY fun _ _ Z=>?_;refine zs 7 fun _ Y=>?_;simp;apply Y;refine aD fun _ Y=>?_;simp;refine cH (e2 (by omega)).1 ?_;apply Y;simp;apply Z;refine zk [4,5,6,7,8,9,10,11,12] ?_;refine yL fun _ _ Z=>?_;refine zs 7 fun _ Y=>?_;simp;apply Y;refine aD fun _ Y=>?_;simp;refine cH (Qr x (bX a).a (bX a).b (bX a).c bel rk _ hx htr (hkl _)) ?_;rw [(e2 (by omega)).2];apply Y;simp;apply Z;apply aK;apply aA;refine zk [6,7,8,9,10,11,12] ?_;refine mY ⟨[],[],[],[],[]⟩ fun all hall _ Z=>?_;have ga4:aR all 4=some 151:=hall 4;refine zs 5 fun _ Y=>?_;simp[ga4];apply Y;refine aU 151 (by simp <;> rfl) ?_;refine⟨fun g6=>?_,fun g6=>?_⟩
  ·try simp at g6
   simp[ga4];apply Z;apply aB;simp [aL]
  simp at g6
 try simp at c5
 refine zk [0,4,5,6,7,8,9,10,11,12] ?_;refine aY fun _ _ Z=>?_;simp;apply Z;refine zi ?_;refine⟨fun c7=>?_,fun c7=>?_⟩
 ·try simp at c7
  refine zk [0,4,5,6,7,8,9,10,11,12] ?_;refine aY fun _ _ Z=>?_;refine zs 5 fun _ Y=>?_;simp;apply Y;refine aD fun _ Y=>?_;simp;refine cH (e3 (by omega)).1 ?_;apply Y;simp;apply Z;refine zk [4,5,6,7,8,9,10,11,12] ?_;refine yL fun _ _ Z=>?_;refine zs 5 fun _ Y=>?_;simp;apply Y;refine aD fun _ Y=>?_;simp;refine cH (Qo x (bX a).a (bX a).b _ hx (hkn _)) ?_;rw [(e3 (by omega)).2];apply Y;simp;apply Z;apply aK;apply aA;refine zk [6,7,8,9,10,11,12] ?_;refine mY ⟨[],[],[],[],[]⟩ fun all hall _ Z=>?_;have ga4:aR all 4=some 151:=hall 4;refine zs 5 fun _ Y=>?_;simp[ga4];apply Y;refine aU 151 (by simp <;> rfl) ?_;refine⟨fun g8=>?_,fun g8=>?_⟩
  ·try simp at g8
   simp[ga4];apply Z;apply aB;simp [aL]
  simp at g8
 try simp at c7
 refine zk [0,4,5,6,7,8,9,10,11,12] ?_;refine aY fun _ _ Z=>?_;simp;apply Z;refine zi ?_;refine⟨fun c9=>?_,fun c9=>?_⟩
 ·try simp at c9
  refine zk [0,4,5,6,7,8,9,10,11,12] ?_;refine aY fun _ _ Z=>?_;refine zs 3 fun _ Y=>?_;simp;apply Y;refine aD fun _ Y=>?_;simp;refine cH (e4 (by omega)).1 ?_;apply Y;simp;apply Z;refine zk [4,5,6,7,8,9,10,11,12] ?_;refine yL fun _ _ Z=>?_;refine zs 3 fun _ Y=>?_;simp;apply Y;refine aD fun _ Y=>?_;simp;refine cH (Pq x (bX a).a bel2 rk _ hx htr2) ?_;rw [(e4 (by omega)).2];apply Y;simp;apply Z;apply aK;apply aA;refine zk [6,7,8,9,10,11,12] ?_;refine mY ⟨[],[],[],[],[]⟩ fun all hall _ Z=>?_;have ga4:aR all 4=some 151:=hall 4;refine zs 5 fun _ Y=>?_;simp[ga4];apply Y;refine aU 151 (by simp <;> rfl) ?_;refine⟨fun g10=>?_,fun g10=>?_⟩
  ·try simp at g10
   simp[ga4];apply Z;apply aB;simp [aL]
  simp at g10
 try simp at c9
 refine zk [0,4,5,6,7,8,9,10,11,12] ?_;refine mY ⟨[],[],[],[],[]⟩ fun all hall _ Z=>?_;have ga3:aR all 3=some 123:=hall 3;refine zs 4 fun _ Y=>?_;simp[ga3];apply Y;refine aU 123 (by simp <;> rfl) ?_;refine⟨fun g11=>?_,fun g11=>?_⟩
 ·try simp at g11
  simp[ga3];apply Z;refine zi ?_;refine⟨fun c12=>?_,fun c12=>?_⟩
  ·try simp at c12
   refine zk [0,4,5,6,7,8,9,10,11,12] ?_;refine aY fun _ _ Z=>?_;refine zs 2 fun _ Y=>?_;simp;apply Y;refine aD fun _ Y=>?_;simp;refine cH (e5 (by omega)).1 ?_;apply Y;simp;apply Z;refine zk [4,5,6,7,8,9,10,11,12] ?_;refine yL fun _ _ Z=>?_;refine zs 8 fun _ Y=>?_;simp;and_intros<;>(try omega);apply Y;refine zs 4 fun _ Y=>?_;simp;apply Y;refine aD fun _ Y=>?_;simp;refine cH (Pb x ((bX a).kind - 10) (bX a).a (bX a).name (bX a).value (bX a).c _ hx (by omega) (hsa _) (hss _)) ?_;rw [(e5 (by omega)).2];apply Y;simp;apply Z;apply aK;apply aA;refine zk [6,7,8,9,10,11,12] ?_;refine mY ⟨[],[],[],[],[]⟩ fun all hall _ Z=>?_;have ga4:aR all 4=some 151:=hall 4;refine zs 5 fun _ Y=>?_;simp[ga4];apply Y;refine aU 151 (by simp <;> rfl) ?_;refine⟨fun g13=>?_,fun g13=>?_⟩
   ·try simp at g13
    simp[ga4];apply Z;apply aB;simp [aL]
   simp at g13
  try simp at c12
  apply aE;apply aK;apply aA;refine zk [6,7,8,9,10,11,12] ?_;refine mY ⟨[],[],[],[],[]⟩ fun all hall _ Z=>?_;have ga4:aR all 4=some 151:=hall 4;refine zs 5 fun _ Y=>?_;simp[ga4];apply Y;refine aU 151 (by simp <;> rfl) ?_;refine⟨fun g14=>?_,fun g14=>?_⟩
  ·try simp at g14
   simp[ga4];apply Z;apply aB;obtain⟨q1,q2⟩:=e6 (by omega);subst q1;subst q2;simp [aL]
  simp at g14
 try simp at g11
 simp[ga3];apply Z;refine bM (t:=false) (by simp) (fun h=>by cases h) (fun _=>?_);apply aE;apply aK;apply aA;refine zk [6,7,8,9,10,11,12] ?_;refine mY ⟨[],[],[],[],[]⟩ fun all hall _ Z=>?_;have ga4:aR all 4=some 151:=hall 4;refine zs 5 fun _ Y=>?_;simp[ga4];apply Y;refine aU 151 (by simp <;> rfl) ?_;refine⟨fun g15=>?_,fun g15=>?_⟩
 ·try simp at g15
  simp[ga4];apply Z;apply aB;obtain⟨q1,q2⟩:=e6 (by omega);subst q1;subst q2;simp [aL]
 simp at g15
end Go.Proofs.YtbgfljpnhhdkoaaGreat
