import Derived.Test.YtbgfljpnhhdkoaaGreatLisBs
import Derived.Test.YtbgfljpnhhdkoaaGreatWkWv2
import Derived.Test.YtbgfljpnhhdkoaaGreatWkAr9
set_option linter.all false
set_option maxRecDepth 20000
set_option maxHeartbeats 8000000
open Go.Proofs.Tryz
namespace Go.Proofs.YtbgfljpnhhdkoaaGreat
open Go Go.Vm
variable {N k:Nat}{a b l:List Int}
theorem aXv(N:Nat)(l:List Nat):Sc N (.xs 1 (dN l)):=Sc.xs fun e he y hy=>by
 obtain⟨a,_,rfl⟩:=aX.1 he;simp only [D.cells,bU,fJ,fU] at hy;subst hy;exact Sc.v _
theorem Ed(l:List Int)(σ:List (List D))(hl:l.length<=1000000):Ct prog 144 [.sl false (l.map D.int)] σ (fun r σ'=>r= .mo (.int .i64) (cZ l).length (Ap (Im l) (cZ l))/\σ'=σ):=
 xA (Yi l σ hl) fun r hr=>by rw [hr];exact aSl _ _ _ _
theorem aIp(l:List Int)(σ:List (List D))(hl:l.length<=1000000)(hd:Lis.Dis l):Ct prog 210 [.sl false (l.map D.int)] σ (fun r σ'=>r= .sl false (dN (Lis.ofP l))/\σ'=σ):=
 (xA ((aFg l σ hl hd).toX fun _ _ h=>h) fun r hr=>by rw [hr];exact aXv _ _).freeze fun _ _ h=>h
theorem Jm(l:List Int)(x:Int):Gf (Ap (Im l) (cZ l)) (.int .i64 x) (D.int 0) (D.int (at_ l x)) false\/Gf (Ap (Im l) (cZ l)) (.int .i64 x) (D.int 0) (D.int (at_ l x)) true:=by
 have:=Mw (Im l) (cZ l) x
 rwa [aP2] at this
theorem aP5(N:Nat)(l:List Int):Sc N (.sl true (l.map D.int)):=Sc.sl fun d hd=>by
 obtain⟨a,_,rfl⟩:=aX.1 hd;exact Sc.v _
theorem aLq (hk:k<l.length)(h:at_ l l[k]=(k:Int)+1):cZ (l.take (k+1))=cZ (l.take k)++ [l[k]]:=by rw [Pr hk,aI h]
theorem aRf (hk:k<l.length)(h:¬at_ l l[k]=(k:Int)+1):cZ (l.take (k+1))=cZ (l.take k):=by rw [Pr hk,aC h]
theorem aQh(l:List Int)(k:Nat):(cZ (l.take k)).length<=k:=by
 have:=vE (l.take k);simp at this;omega
@[simp] abbrev q50_1:Cfg:=⟨[2,3,4,16,22,27],[],[],[],[]⟩
theorem aLw(l:List Int)(σ:List (List D))(hl:l.length<=1000000):Ct prog 143 [.sl false (l.map D.int)] σ (fun r σ'=>r= .sl true ((cZ l).map D.int)/\∃J,σ'=σ++J):=by
 refine zf func143 ?_;refine zr q50_1 fun _ _ Z=>?_;simp(disch:=omega);apply Z;refine zr q50_1 fun _ _ Z=>?_;refine zs 1 fun _ Y=>?_;simp(disch:=omega);apply Y;refine aE fun _ Y=>?_;simp(disch:=omega);refine cB (Ed l _ hl) ?_;apply Y;simp(disch:=omega);apply Z;refine zr q50_1 fun _ _ Z=>?_;simp(disch:=omega);apply Z;apply aF;refine Cn 3 rfl ?_;refine zr q50_1 fun _ _ Z=>?_;simp(disch:=omega);and_intros<;>(try omega);apply Z;apply aS;refine zk [2,3,4,9,10,11] ?_;refine aZ (fun(k:Nat)=> [(11,.d (.int k)),(4,.d (.sl true ((cZ (l.take k)).map D.int))),(3,.d (.mp σ.length (.int .i64) (cZ l).length (Ap (Im l) (cZ l)))),(5,.d (.any)),(6,.d (.any))]) [3,4,5,6,11,12,13,14,15,16,17,18,19,20,21,22,23,24,25,26] (fun(k:Nat)=>k<=l.length) (fun(k:Nat)=>l.length - k) (0) (by simp <;> rfl) ?_ ?_ ?_
 .simp [cZ]
 .simp
 rintro k hk;simp only [aP,aN];have hot:=aQh l k;refine zr q50_1 fun _ _ Z=>?_;simp(disch:=omega);apply Z;apply aF;refine zI ?_ ?_<;>intro c1<;>try simp at c1
 .apply kR;refine zr q50_1 fun _ _ Z=>?_;simp(disch:=omega);and_intros<;>(try omega);apply Z;refine zk [2,3,4,5,6,9,10,11] ?_;refine zr q50_1 fun _ _ Z=>?_;refine zs 3 fun _ Y=>?_;simp(disch:=omega);refine⟨_,⟨wP _,Jm l _⟩,?_⟩;and_intros<;>(try omega);apply Y;simp(disch:=omega);and_intros<;>(try omega);apply Z;refine zI ?_ ?_<;>intro c2<;>try simp at c2
  .have hon:=aLq c1 c2;refine kA 16 3 rfl rfl ?_;refine zk [2,3,4,5,6,9,10,11] ?_;refine zt q50_1 fun _ _ Z=>?_;simp(disch:=omega);and_intros<;>(try omega);apply Z;apply zB;refine zk [2,3,4,5,6,9,10,11] ?_;refine zt q50_1 fun _ _ Z=>?_;simp(disch:=omega);and_intros<;>(try omega);apply Z;refine zq (k+1) ?_ ?_ ?_
   .omega
   .try dsimp only
    omega
   simp(disch:=omega)[hon]
  have hon:=aRf c1 c2;refine kA 16 3 rfl rfl ?_;apply mM;refine zk [2,3,4,5,6,9,10,11] ?_;refine zt q50_1 fun _ _ Z=>?_;simp(disch:=omega);and_intros<;>(try omega);apply Z;refine zq (k+1) ?_ ?_ ?_
  .omega
  .try dsimp only
   omega
  simp(disch:=omega)[hon]
 apply zE;refine zr q50_1 fun _ _ Z=>?_;simp(disch:=omega);apply Z;apply aD;simp [aK];rw [bL (by omega)]
theorem aCu(l:List Int)(σ:List (List D))(hl:l.length<=1000000):Ct prog 143 [.sl false (l.map D.int)] σ (fun r σ'=>r= .sl true ((cZ l).map D.int)/\σ'=σ):=
 xA (aLw l σ hl) fun r hr=>by rw [hr];exact aP5 _ _
theorem aQ8(x y:Int)(σ:List (List D))  :Ct prog 213 [D.int y,.adr [D.int x]] σ (fun r σ'=>r= .bool (decide (y=x))/\σ'=σ):=by
 refine zf func213 ?_;refine bE fun _ _ Z=>?_;simp;apply Z;refine bE fun _ _ Z=>?_;simp;apply Z;apply aD;simp [aK]
theorem aP7(l:List Int)(x:Int)(σ:List (List D))(hl:l.length<=1000000):Ct prog 147 [.xs 1 (l.map D.int),D.int x] σ (fun r σ'=>r= .xs 1 ((Mi l x).map D.int)/\σ'=σ):=by
 refine zf func147 ?_;refine zr ⟨[4,5,7],[3],[],[],[]⟩ fun _ _ Z=>?_;simp;apply Z;refine zr ⟨[4,5,7],[3],[],[],[]⟩ fun _ _ Z=>?_;refine zs 2 fun _ Y=>?_;simp;and_intros<;>(try omega);apply Y;refine aE fun _ Y=>?_;simp;refine cB (Nj l (fun y=>decide (y=x)) 213 [.adr [D.int x]] _ hl (by simp) (by simp) (fun y τ _=>aQ8 x y τ)) ?_;apply Y;simp;apply Z;apply aD;simp [aK,Mi]
theorem Iy(l:List Int)(i:Nat)(x:Int)(σ:List (List D))(hl:l.length<=1000000)(hi:i<=l.length):Ct prog 149 [.xs 1 (l.map D.int),D.int i,D.int x] σ (fun r σ'=>r= .xs 1 ((fV l i x).map D.int)/\σ'=σ):=by
 refine zf func149 ?_;refine zr ⟨[6,7,8,11],[],[],[],[]⟩ fun _ _ Z=>?_;simp;apply Z;refine zr ⟨[6,7,8,11],[],[],[],[]⟩ fun _ _ Z=>?_;refine zs 4 fun _ Y=>?_;simp;and_intros<;>(try omega);apply Y;refine aE fun _ Y=>?_;simp;refine cB (Rw l x i _ hl hi) ?_;apply Y;simp;apply Z;apply aD;simp [aK]
theorem Ve(l:List Int)(σ:List (List D))  :Ct prog 146 [.sl false (l.map D.int)] σ (fun r σ'=>r= .clo (.func 211) [] [.adr [.sl false (l.map D.int)]]/\σ'=σ):=by
 refine zf func146 ?_;refine zr ⟨[],[1],[],[],[]⟩ fun _ _ Z=>?_;simp;apply Z;refine zr ⟨[],[1],[],[],[]⟩ fun _ _ Z=>?_;simp;and_intros<;>(try omega);apply Z;apply aD;simp [aK]
theorem Pb (hk:k<b.length)(h:b[k]∈a):lF a (b.take (k+1))=lF a (b.take k)++ [b[k]]:=by rw [Ld hk,aI h]
theorem Vf (hk:k<b.length)(h:¬b[k]∈a):lF a (b.take (k+1))=lF a (b.take k):=by rw [Ld hk,aC h]
theorem Fw(a b:List Int):(lF a b).length<=b.length:=gE _ _
theorem Va (hb:b.Nodup):(lF a b).Nodup:=hb.filter _
theorem Pq {x:Int} (h:x∈lF a b):x∈a:=by
 unfold lF at h;rw [cY] at h;simpa using h.2
theorem aUy {x y:Int} (hx:x∈a)(hy:y∈a)(h:at_ a x=at_ a y):x=y:=by
 obtain⟨i,hi,h1,h2,_⟩:=xV hx;obtain⟨j,hj,h3,h4,_⟩:=xV hy;unfold at_ at h;rw [aI hx,aI hy] at h;unfold Im at h;have:i=j:=by omega
 subst this;rw [<- h2,<- h4]
theorem aG9 (hb:b.Nodup):Lis.Dis (kV a b):=by
 intro i j hi hj h;have hi':i<(lF a b).length:=by simpa [kV] using hi
 have hj':j<(lF a b).length:=by simpa [kV] using hj
 rw [<- Cd hi,<- Cd hj] at h;simp only [kV,jM] at h;have:=aUy (Pq (cN hi')) (Pq (cN hj')) h;exact(Ff (Va hb)).1 this
theorem aDr(a b:List Int) (hk:k<(Lis.ofP (kV a b)).length):(nI a b).take (k+1)=(nI a b).take k++ [((lF a b)[(Lis.ofP (kV a b))[k]]?.getD 0)]:=by
 have h:k<(nI a b).length:=by simpa [nI] using hk
 rw [nF _ k h];simp [nI]
theorem aFb (hk:k<b.length)(h:b[k]∈a):kV a (b.take (k+1))=kV a (b.take k)++ [at_ a b[k]]:=by simp [kV,Pb hk h]
theorem aNx (hk:k<b.length)(h:¬b[k]∈a):kV a (b.take (k+1))=kV a (b.take k):=by simp [kV,Vf hk h]
theorem sI(a b:List Int):(kV a b).length=(lF a b).length:=by simp [kV]
theorem aKz(a b:List Int) (hk:k<(Lis.ofP (kV a b)).length)(h:(Lis.ofP (kV a b))[k]<(lF a b).length):cZ ((nI a b).take (k+1))=tN (cZ ((nI a b).take k)) (lF a b)[(Lis.ofP (kV a b))[k]]:=by
 rw [aDr a b hk,Bn,aW4 _ _ h]
theorem aGj(a b:List Int):(nI a b).length=(Lis.ofP (kV a b)).length:=by simp [nI]
@[simp] abbrev q50_2:Cfg:=⟨[4,5,6,9,22,26,41,47],[],[],[],[]⟩
theorem aMi(a b:List Int)(m N c:Nat)(σ:List (List D))(hm:σ[m]?=some [.mp N (.int .i64) c (Ap (Im a) (cZ a))])(hb:b.Nodup)(hl:b.length<=100000):Ct prog 145 [.mref N,.sl false (b.map D.int)] σ (fun r σ'=>r= .mo (.int .i64) (cZ (nI a b)).length (Ap (fun _=>1) (cZ (nI a b)))/\∃J,σ'=σ++J):=by
 refine zf func145 ?_;refine zr q50_2 fun _ _ Z=>?_;simp(disch:=omega);apply Z;refine zr q50_2 fun _ _ Z=>?_;simp(disch:=omega);apply Z;apply aF;refine zr q50_2 fun _ _ Z=>?_;simp(disch:=omega);and_intros<;>(try omega);apply Z;apply aS;refine zk [0,4,5,6,12,13,14] ?_;refine aZ (fun(k:Nat)=> [(14,.d (.int k)),(5,.d (.sl true ((lF a (b.take k)).map D.int))),(6,.d (.sl true ((kV a (b.take k)).map D.int))),(8,.d (.any))]) [5,6,8,14,15,16,17,18,19,20,21,22,23,24,25,26,27,28,29,30,31,32] (fun(k:Nat)=>k<=b.length) (fun(k:Nat)=>b.length - k) (0) (by simp <;> rfl) ?_ ?_ ?_
 .simp [lF,kV]
 .simp
 rintro k hk;simp only [aP,aN];have hil:=Fw a (b.take k);have hol:=sI a (b.take k);simp only [bF] at hil;refine zr q50_2 fun _ _ Z=>?_;simp(disch:=omega);apply Z;apply aF;refine zI ?_ ?_<;>intro c1<;>try simp at c1
 .apply kR;refine zr q50_2 fun _ _ Z=>?_;simp(disch:=omega);and_intros<;>(try omega);apply Z;refine zk [0,4,5,6,8,12,13,14] ?_;refine zr q50_2 fun _ _ Z=>?_;refine zs 3 fun _ Y=>?_;simp(disch:=omega);refine⟨m,0,c,_,D.int (at_ a b[k]),⟨⟨_,hm,rfl⟩,wP _,Jm a _⟩,?_⟩;and_intros<;>(try omega);apply Y;simp(disch:=omega);apply Z;refine zI ?_ ?_<;>intro c2<;>try simp at c2
  .have hmem:=Gx.1 c2;have hkI:=Pb c1 hmem;have hkO:=aFb c1 hmem;refine zk [0,4,5,6,8,12,13,14] ?_;refine ze q50_2 [.op {},.op {},.op {},.op {},.op {},.op {},.op {},.op {rO:=true},.op {},.op {},.op {},.op {}] fun all hall _ Z=>?_;refine iU 8 fun _ Y=>?_;simp(disch:=omega);refine⟨by omega,m,0,c,_,D.int (at_ a b[k]),⟨⟨_,hm,rfl⟩,wP _,Jm a _⟩,?_⟩;and_intros<;>(try omega);apply Y;simp(disch:=omega);and_intros<;>(try omega);apply Z;apply zB;refine zk [0,4,5,6,8,12,13,14] ?_;refine zt q50_2 fun _ _ Z=>?_;simp(disch:=omega);and_intros<;>(try omega);apply Z;refine zq (k+1) ?_ ?_ ?_
   .omega
   .try dsimp only
    omega
   simp(disch:=omega)[hkI,hkO]
  have hmem:¬b[k]∈a:=fun h=>by have:=Gx.2 h;omega
  have hkI:=Vf c1 hmem;have hkO:=aNx c1 hmem;apply mM;refine zk [0,4,5,6,8,12,13,14] ?_;refine zt q50_2 fun _ _ Z=>?_;simp(disch:=omega);and_intros<;>(try omega);apply Z;refine zq (k+1) ?_ ?_ ?_
  .omega
  .try dsimp only
   omega
  simp(disch:=omega)[hkI,hkO]
 obtain rfl:k=b.length:=by omega
 simp only [eH];apply zE;refine zr q50_2 fun _ _ Z=>?_;simp(disch:=omega);and_intros<;>(try omega);apply Z;apply aF;refine zr q50_2 fun _ _ Z=>?_;refine zs 1 fun _ Y=>?_;simp(disch:=omega);apply Y;refine aE fun _ Y=>?_;simp(disch:=omega);refine cB (aIp (kV a b) _ (by have:=Fw a b;have:=sI a b;omega) (aG9 hb)) ?_;apply Y;simp(disch:=omega);and_intros<;>(try omega);apply Z;apply aS;refine zk [4,5,9,35,36,37] ?_;refine aZ (fun(k:Nat)=> [(37,.d (.int k)),(9,.d (.mp σ.length (.int .i64) (cZ ((nI a b).take k)).length (Ap (fun _=>1) (cZ ((nI a b).take k))))),(11,.d (.any))]) [9,11,37,38,39,40,41,42,43,44,45,46] (fun(k:Nat)=>k<=(Lis.ofP (kV a b)).length) (fun(k:Nat)=>(Lis.ofP (kV a b)).length - k) (0) (by simp <;> rfl) ?_ ?_ ?_
 .simp [cZ,Ap]
 .simp
 rintro k hk;simp only [aP,aN];have hpl:=Lis.ofP_len (kV a b);have hpl2:=sI a b;have hpl3:=Fw a b;refine zr q50_2 fun _ _ Z=>?_;simp(disch:=omega);apply Z;apply aF;refine zI ?_ ?_<;>intro c3<;>try simp at c3
 .have hlt:(Lis.ofP (kV a b))[k]<(lF a b).length:=by have:=Lis.ofP_lt (kV a b) _ (cN c3);rwa [sI] at this
  have hsn:=aKz a b c3 hlt;apply kR;refine zr q50_2 fun _ _ Z=>?_;simp(disch:=omega)[hlt];and_intros<;>(try omega);apply Z;refine zt q50_2 fun _ _ Z=>?_;simp(disch:=omega)[hlt];refine⟨41,_,_,⟨rfl,wP _,Wk (fun _=>1) _ _ 1 rfl⟩,?_⟩;and_intros<;>(try omega);apply Z;apply zB;refine kA 41 9 rfl rfl ?_;refine zk [4,5,9,11,35,36,37] ?_;refine zt q50_2 fun _ _ Z=>?_;simp(disch:=omega)[hlt];and_intros<;>(try omega);apply Z;refine zq (k+1) ?_ ?_ ?_
  .omega
  .try dsimp only
   omega
  simp(disch:=omega)[hsn,hlt]
 obtain rfl:k=(Lis.ofP (kV a b)).length:=by omega
 apply zE;refine zr q50_2 fun _ _ Z=>?_;simp(disch:=omega);apply Z;refine Lk 4 rfl ?_;apply aD;simp [aK,<- aGj]
theorem aOz(a b:List Int)(m N c:Nat)(σ:List (List D))(hm:σ[m]?=some [.mp N (.int .i64) c (Ap (Im a) (cZ a))])(hb:b.Nodup)(hl:b.length<=100000):Ct prog 145 [.mref N,.sl false (b.map D.int)] σ (fun r σ'=>r= .mo (.int .i64) (cZ (nI a b)).length (Ap (fun _=>1) (cZ (nI a b)))/\σ'=σ):=
 xA (aMi a b m N c σ hm hb hl) fun r hr=>by rw [hr];exact aSl _ _ _ _
theorem aSb {p:D×D} (h:(bwL b)[k]?=some p):∃(i:Nat) (hi:i<b.length),k<b.length/\b.length - 1 - k=i/\p=(D.int i,D.int b[i]):=by
 unfold bwL at h;rw [bW,dY] at h;obtain⟨i,h1,rfl⟩:=h;obtain⟨hk,h2⟩:=aM.1 h1;have hk':k<b.length:=by simpa using hk
 rw [vN] at h2;simp at h2;subst h2;exact⟨_,by omega,hk',rfl,by rw [aW4 _ _ (by omega)]⟩
theorem aOc(b:List Int):∀p∈bwL b,p.1.flat=true/\p.2.flat=true:=by
 intro p hp;unfold bwL at hp;obtain⟨i,_,rfl⟩:=aX.1 hp;exact⟨rfl,rfl⟩
theorem aSc(b:List Int):(bwL b).length=b.length:=by simp [bwL]
theorem fN(σ X:List (List D))(j:Nat):(σ++X)[σ.length+j]?=X[j]?:=by rw [bQ (by omega),nW]
theorem cE(σ X:List (List D)):(σ++X)[σ.length]?=X[0]?:=fN σ X 0
theorem mU(σ X:List (List D))(j:Nat)(B:List D):(σ++X).set (σ.length+j) B=σ++X.set j B:=by rw [lR _ _ (by omega),nW]
theorem gU(σ X:List (List D))(B:List D):(σ++X).set σ.length B=σ++X.set 0 B:=mU σ X 0 B
theorem aUu {σ X Y:List (List D)} (h:∀cs∈X,∀d∈cs,Sc N d):∀(n:Nat) (cs:List D),(σ++X)[n]?=some cs->(σ++Y)[n]?=some cs\/∀d∈cs,Sc N d:=fun n cs hn=>by
 by_cases e:n<σ.length
 .rw [aW e] at hn;exact .inl (by rw [aW e];exact hn)
 rw [bQ (by omega)] at hn;exact .inr (h cs (bA hn))
theorem aSt(N:Nat)(l:List ST):Sc N (.sl true (l.map aHf)):=Sc.sl fun d hd=>by
 obtain⟨a,_,rfl⟩:=aX.1 hd;exact Sc.agg fun e he=>by
  simp only [bU,fJ,fU] at he;rcases he with rfl | rfl | rfl <;> exact Sc.v _
theorem aSh {n:Nat} (h:n<N)(f:Int->Int)(c:Nat)(os:List Int):Sc N (.mp n (.int .i64) c (Ap f os)):=Sc.mp h fun k s d hd=>by
 obtain⟨j,hj⟩:=eI hd;rw [Cq] at hj;cases hx:os[j]? with
 | none=>rw [hx] at hj;cases hj
 | some x=>rw [hx] at hj;simp at hj;rw [<- hj.2.2];exact Sc.v _
theorem aT6(N:Nat)(o:Bool)(l:List Int):Sc N (.sl o (l.map D.int)):=Sc.sl fun d hd=>by
 obtain⟨a,_,rfl⟩:=aX.1 hd;exact Sc.v _
theorem aWs {n1 n2:Nat} (h1:n1<N)(h2:n2<N)(b now:List Int)(f g:Int->Int)(c e:Nat)(ks os:List Int)(st:List ST):
  ∀cs∈([[.sl true (b.map D.int)], [], [.mp n1 (.int .i64) c (Ap f ks)], [], [.sl true (st.map aHf)], [.xs 1 (now.map D.int)], [.mp n2 (.int .i64) e (Ap g os)], []]:List (List D)),∀d∈cs,Sc N d:=by
 intro cs hcs d hd;simp only [bU,fJ,fU] at hcs;rcases hcs with rfl | rfl | rfl | rfl | rfl | rfl | rfl | rfl <;> simp only [bU,fJ,fU] at hd
 .subst hd;exact aT6 _ _ _
 .subst hd;exact aSh h1 _ _ _
 .subst hd;exact aSt _ _
 .subst hd;exact aEa _ _
 subst hd;exact aSh h2 _ _ _
theorem aLs (hk:k<a.length)(h:a[k]∈b):(a.take (k+1)).filter (fun x=>decide (x∈b))=(a.take k).filter (fun x=>decide (x∈b))++ [a[k]]:=by
 rw [nF a k hk,eP,oO (by simpa using h)];rfl
theorem aQv (hk:k<a.length)(h:¬a[k]∈b):(a.take (k+1)).filter (fun x=>decide (x∈b))=(a.take k).filter (fun x=>decide (x∈b)):=by
 rw [nF a k hk,eP,oR (by simpa using h),mI,fZ]
theorem aNu (hk:k<a.length)(h:¬a[k]∈b):lW (a.take (k+1)) b=lW (a.take k) b++ [⟨1,a[k],0⟩]:=by
 unfold lW;rw [nF a k hk,eP,oO (by simpa using h),dK];rfl
theorem aR9 (hk:k<a.length)(h:a[k]∈b):lW (a.take (k+1)) b=lW (a.take k) b:=by
 unfold lW;rw [nF a k hk,eP,oR (by simpa using h),mI,fZ]
theorem aI6(a b:List Int)(k:Nat):((a.take k).filter fun x=>decide (x∈b)).length<=k:=by
 have:=gE (fun x=>decide (x∈b)) (a.take k);simp at this;omega
theorem aHj(a b:List Int)(k:Nat):(lW (a.take k) b).length<=k:=by
 unfold lW;rw [bI];have:=gE (fun x=> !decide (x∈b)) (a.take k);simp at this;omega
@[simp] abbrev q50_3:Cfg:=⟨[0,4,6,13,15,30,34,38,59,60,61,76,77,78,79,80,87],[],[3,7,8],[37,63],[]⟩
theorem aEv(frm to:List Int)(σ:List (List D))(hf:frm.length<=10000)(ht:to.length<=10000):Ct prog 62 [.sl false (frm.map D.int),.sl false (to.map D.int)] σ (fun r σ'=>r= .sl true ((kY frm to).map aHf)/\∃J,σ'=σ++J):=by
 refine zf func62 ?_;obtain⟨a,ha⟩:∃a,cZ frm=a:=⟨_,rfl⟩;obtain⟨b,hb⟩:∃b,cZ to=b:=⟨_,rfl⟩;have han:a.Nodup:=by rw [<- ha];exact xL _
 have hbn:b.Nodup:=by rw [<- hb];exact xL _
 have hal:a.length<=10000:=by rw [<- ha];have:=vE frm;omega
 have hbl:b.length<=10000:=by rw [<- hb];have:=vE to;omega
 obtain⟨os,hos⟩:∃os,cZ (nI a b)=os:=⟨_,rfl⟩;have hosm:∀x∈os,x∈a/\x∈b:=by rw [<- hos];exact Xm fun i hi=>by have:=Lis.ofP_lt _ i hi;rwa [sI] at this
 refine zr q50_3 fun _ _ Z=>?_;simp(disch:=omega)[fN,cE,mU,gU,bR,ha,hb,hos];and_intros<;>(try omega);apply Z;refine zd q50_3 [.op {},.pure,.op {rO:=true},.pure,.op {},.op {rO:=true,wO:=true}] fun all hall _ Z=>?_;refine iU 1 fun _ Y=>?_;simp(disch:=omega)[fN,cE,mU,gU,bR,ha,hb,hos];apply Y;refine dL fun _ Y=>?_;simp(disch:=omega)[fN,cE,mU,gU,bR,ha,hb,hos];refine Ia (fun _=>(aCu frm _ (by omega))) ?_;apply Y;refine iU 1 fun _ Y=>?_;simp(disch:=omega)[fN,cE,mU,gU,bR,ha,hb,hos];apply Y;refine dL fun _ Y=>?_;simp(disch:=omega)[fN,cE,mU,gU,bR,ha,hb,hos];refine Ia (fun _=>(aCu to _ (by omega))) ?_;apply Y;simp(disch:=omega)[fN,cE,mU,gU,bR,ha,hb,hos];apply Z;refine zd q50_3 [.op {},.pure,.op {rO:=true},.pure,.op {rL:=true,wL:=true},.op {rL:=true,wL:=true},.op {}] fun all hall _ Z=>?_;refine iU 1 fun _ Y=>?_;simp(disch:=omega)[fN,cE,mU,gU,bR,ha,hb,hos];apply Y;refine dL fun _ Y=>?_;simp(disch:=omega)[fN,cE,mU,gU,bR,ha,hb,hos];refine Ia (fun _=>(Ed a _ (by omega))) ?_;apply Y;refine iU 1 fun _ Y=>?_;simp(disch:=omega)[fN,cE,mU,gU,bR,ha,hb,hos];apply Y;refine dL fun _ Y=>?_;simp(disch:=omega)[fN,cE,mU,gU,bR,ha,hb,hos];refine Ia (fun _=>(Ed b _ (by omega))) ?_;apply Y;simp(disch:=omega)[fN,cE,mU,gU,bR,ha,hb,hos];apply Z;refine Cn 6 rfl ?_;refine Kn 5 0 rfl rfl ?_;simp only [bM,aP,aN];refine Dz (σ.length+2) 0 (by simp [fN];rfl) rfl ?_;simp only [mU,gR,eQ,bM,aP,aN,bB,bT,dF,Nat.reduceAdd];refine zk [0,3,4,5,6] ?_;refine zr q50_3 fun _ _ Z=>?_;simp(disch:=omega)[fN,cE,mU,gU,bR,ha,hb,hos];and_intros<;>(try omega);apply Z;refine zr q50_3 fun _ _ Z=>?_;simp(disch:=omega)[fN,cE,mU,gU,bR,ha,hb,hos];and_intros<;>(try omega);apply Z;apply aF;refine yH (σ.length+5) 0 1 (by simp [fN];rfl) rfl ?_;simp only [mU,gR,eQ];refine zr q50_3 fun _ _ Z=>?_;simp(disch:=omega)[fN,cE,mU,gU,bR,ha,hb,hos];and_intros<;>(try omega);apply Z;apply aS;refine zk [3,4,5,6,7,8,24,25,26] ?_;refine jR (fun(k:Nat)=> [(26,.d (.int k)),(6,.d (.mp (σ.length+1) (.int .i64) (cZ b).length (Ap (Im b) (cZ b)))),(10,.d (.any))]) (fun(k:Nat)=> [[]]) (fun(k:Nat)=>σ++ [[.sl true (b.map D.int)], [], [.mp (σ.length+3) (.int .i64) (cZ a).length (Ap (Im a) (cZ a))], [], [.sl true ((lW (a.take k) b).map aHf)], [.xs 1 (((a.take k).filter fun x=>decide (x∈b)).map D.int)]]) [6,10,26,27,28,29,30,31,32,33,34,35,36,37,38,39,40,41,42,43] (fun(k:Nat)=>k<=a.length) (fun(k:Nat)=>a.length - k) (0) (by simp <;> rfl) ?_ (by simp) (by simp [lW]) ?_ ?_
 .simp
 .simp
 rintro k hk;simp only [aP,aN];have hfl:=aI6 a b k;have hdl:=aHj a b k;refine zr q50_3 fun _ _ Z=>?_;simp(disch:=omega)[fN,cE,mU,gU,bR,ha,hb,hos];apply Z;apply aF;refine zI ?_ ?_<;>intro c1<;>try simp at c1
 .apply kR;refine zr q50_3 fun _ _ Z=>?_;simp(disch:=omega)[fN,cE,mU,gU,bR,ha,hb,hos];and_intros<;>(try omega);apply Z;refine zk [3,4,5,6,7,8,10,24,25,26] ?_;refine zr q50_3 fun _ _ Z=>?_;refine zs 3 fun _ Y=>?_;simp(disch:=omega)[fN,cE,mU,gU,bR,ha,hb,hos];refine⟨_,⟨wP _,Jm b _⟩,?_⟩;and_intros<;>(try omega);apply Y;simp(disch:=omega)[fN,cE,mU,gU,bR,ha,hb,hos];apply Z;refine zI ?_ ?_<;>intro c2<;>try simp at c2
  .have hmem:=Gx.1 c2;have hfi:=aLs c1 hmem;have hdr:=aR9 c1 hmem;refine kA 30 6 rfl rfl ?_;refine zk [3,4,5,6,7,8,10,24,25,26] ?_;refine zt q50_3 fun _ _ Z=>?_;simp(disch:=omega)[fN,cE,mU,gU,bR,ha,hb,hos];and_intros<;>(try omega);apply Z;apply zB;refine zk [3,4,5,6,7,8,10,24,25,26] ?_;refine zt q50_3 fun _ _ Z=>?_;simp(disch:=omega)[fN,cE,mU,gU,bR,ha,hb,hos];and_intros<;>(try omega);apply Z;refine eX (k+1) ?_ ?_ (dX rfl ?_ (by simp) (by simp [hfi,hdr]))
   .omega
   .try dsimp only
    omega
   simp(disch:=omega)[fN,cE,mU,gU,bR,ha,hb,hos]
  have hmem:¬a[k]∈b:=fun h=>by have:=Gx.2 h;omega
  have hfi:=aQv c1 hmem;have hdr:=aNu c1 hmem;refine kA 30 6 rfl rfl ?_;refine zk [3,4,5,6,7,8,10,24,25,26] ?_;refine zt q50_3 fun _ _ Z=>?_;simp(disch:=omega)[fN,cE,mU,gU,bR,ha,hb,hos];and_intros<;>(try omega);apply Z;apply zB;refine zk [3,4,5,6,7,8,10,24,25,26] ?_;refine zt q50_3 fun _ _ Z=>?_;simp(disch:=omega)[fN,cE,mU,gU,bR,ha,hb,hos];and_intros<;>(try omega);apply Z;refine eX (k+1) ?_ ?_ (dX rfl ?_ (by simp) (by simp [hfi,hdr]))
  .omega
  .try dsimp only
   omega
  simp(disch:=omega)[fN,cE,mU,gU,bR,ha,hb,hos]
 obtain rfl:k=a.length:=by omega
 simp only [eH];apply zE;refine zr q50_3 fun _ _ Z=>?_;refine zs 2 fun _ Y=>?_;simp(disch:=omega)[fN,cE,mU,gU,bR,ha,hb,hos];apply Y;refine aE fun _ Y=>?_;simp(disch:=omega)[fN,cE,mU,gU,bR,ha,hb,hos];refine cB (aOz a b (σ.length+2) (σ.length+3) (cZ a).length _ (by simp [fN]) hbn (by omega)) ?_;apply Y;simp(disch:=omega)[fN,cE,mU,gU,bR,ha,hb,hos];apply Z;refine aL0 ?_;refine Kn 11 1 rfl rfl ?_;simp only [bM,aP,aN];refine Dz (σ.length+6) 0 (by simp [fN];rfl) rfl ?_;simp only [mU,gR,eQ,bM,aP,aN,bB,bT,dF,Nat.reduceAdd];refine zk [3,4,5,7,8,11] ?_;refine zt q50_3 fun _ _ Z=>?_;refine zs 1 fun _ Y=>?_;simp(disch:=omega)[fN,cE,mU,gU,bR,ha,hb,hos];apply Y;refine aE fun _ Y=>?_;simp(disch:=omega)[fN,cE,mU,gU,bR,ha,hb,hos];refine cB (Ve b _) ?_;apply Y;simp only [eE];apply Z;refine zks [48,3,5,7,8,11] ?_;refine aHu (bwL b) (fun k:Nat=>σ++ [[.sl true (b.map D.int)], [], [.mp (σ.length+3) (.int .i64) (cZ a).length (Ap (Im a) (cZ a))], [], [.sl true (((oH a b os k).2).map aHf)], [.xs 1 (((oH a b os k).1).map D.int)], [.mp (σ.length+7) (.int .i64) os.length (Ap (fun _=>1) os)], []]) rfl (fun args w=>enters_of func211 (by kernel_rfl) rfl args w) (fun M bs lb hsz h=>aTq false b M bs lb (by simpa using hsz) h) (by repeat' (first | exact fun p hp=>absurd hp fJ | refine List.forall_mem_cons.2 ⟨⟨_,rfl,rfl⟩,?_⟩)) (aOc b) (by simp [oH]) (by decide) (by decide) (by simp) (fun k=>by simp) (fun k _=>aUu (aWs (by simp) (by simp) _ _ _ _ _ _ _ _ _)) ?_ ?_
 .rintro lr k p hp;obtain⟨i,hi,hk,hik,rfl⟩:=aSb hp;dsimp only;obtain⟨s,hs⟩:∃s,oH a b os k=s:=⟨_,rfl⟩;have inv:=Lu hbn hosm k (by omega);have hrl:=Jp (a:=a) (b:=b) (os:=os) k;have hnx:oH a b os (k+1)=Nw a b os i (oH a b os k):=by rw [<- hik];rfl
  rw [hs] at inv hrl hnx |-;rw [hnx];have hlen:=inv.len;have hgl:=Xp a s.1 b[i];refine zr q50_3 fun _ _ Z=>?_;simp(disch:=omega)[fN,cE,mU,gU,bR,ha,hb,hos];apply Z;refine zt q50_3 fun _ _ Z=>?_;simp(disch:=omega)[fN,cE,mU,gU,bR,ha,hb,hos];apply Z;refine⟨rfl,?_⟩;apply aS;apply aF;refine zr q50_3 fun _ _ Z=>?_;refine zs 3 fun _ Y=>?_;simp(disch:=omega)[fN,cE,mU,gU,bR,ha,hb,hos];refine⟨σ.length+6,0,_,_,D.int (if b[i]∈os then 1 else 0),⟨⟨_,(by simp [fN];rfl),rfl⟩,wP _,Mw (fun _=>1) _ _⟩,?_⟩;and_intros<;>(try omega);apply Y;simp(disch:=omega)[fN,cE,mU,gU,bR,ha,hb,hos];apply Z;refine zI ?_ ?_<;>intro c3<;>try simp at c3
  .have c3:b[i]∈os:=Fz fun h=>by rw [aC h] at c3;omega
   apply uV;apply vH;apply sL;refine⟨rfl,rfl,?_⟩;exact⟨[],by simp [aKv hi c3]⟩
  have c3:¬b[i]∈os:=fun h=>by rw [aI h] at c3;omega
  have hps:=aN2 hbn hk inv hik hi c3;apply zA;refine zk [3,5,7,8,12,13] ?_;refine zr q50_3 fun _ _ Z=>?_;simp(disch:=omega)[fN,cE,mU,gU,bR,ha,hb,hos];apply Z;apply aF;refine zr q50_3 fun _ _ Z=>?_;refine zs 3 fun _ Y=>?_;simp(disch:=omega)[fN,cE,mU,gU,bR,ha,hb,hos];refine⟨σ.length+2,0,_,_,D.int (at_ a b[i]),⟨⟨_,(by simp [fN];rfl),rfl⟩,wP _,Jm a _⟩,?_⟩;and_intros<;>(try omega);apply Y;simp(disch:=omega)[fN,cE,mU,gU,bR,ha,hb,hos];apply Z;refine zI ?_ ?_<;>intro c4<;>try simp at c4
  .have hka:=Gx.1 c4;have hgn:Mi s.1 b[i]=gA a s.1 b[i]:=by unfold gA;rw [aI hka]
   refine zr q50_3 fun _ _ Z=>?_;simp(disch:=omega)[fN,cE,mU,gU,bR,ha,hb,hos];apply Z;refine zk [3,7,8,12,13,14] ?_;refine zt q50_3 fun _ _ Z=>?_;refine zs 2 fun _ Y=>?_;simp(disch:=omega)[fN,cE,mU,gU,bR,ha,hb,hos];apply Y;refine aE fun _ Y=>?_;simp(disch:=omega)[fN,cE,mU,gU,bR,ha,hb,hos];refine cB (aP7 s.1 b[i] _ (by omega)) ?_;apply Y;simp(disch:=omega)[fN,cE,mU,gU,bR,ha,hb,hos];apply Z;apply gI;rw [hgn];refine zr q50_3 fun _ _ Z=>?_;simp(disch:=omega)[fN,cE,mU,gU,bR,ha,hb,hos];and_intros<;>(try omega);apply Z;apply aF;refine zk [3,7,8,12,13,14,15] ?_;refine zr q50_3 fun _ _ Z=>?_;simp(disch:=omega)[fN,cE,mU,gU,bR,ha,hb,hos];and_intros<;>(try omega);apply Z;refine zI ?_ ?_<;>intro c5<;>try simp at c5
   .refine nR (σ.length+5) 0 1 (es:=(gA a s.1 b[i]).map D.int) (by simp [fN];rfl) rfl (by decide) fun cap rest hcap hcm hrest hes=>?_;simp only [bI] at hcap hrest |-;rw [gH (f:=D.int) (fun _=>rfl)];simp only [mU,gR,eQ,bM,aP,aN,bB,bT,dF,Nat.reduceAdd];refine zk [3,7,8,12,13,14,15] ?_;refine ze q50_3 [.op {rO:=true},.op {rO:=true},.op {},.op {},.op {},.op {},.read,.op {}] fun all hall _ Z=>?_;refine iU 6 fun _ Y=>?_;simp(disch:=omega)[fN,cE,mU,gU,bR,ha,hb,hos];and_intros<;>(try omega);apply Y;refine dL fun _ Y=>?_;simp(disch:=omega)[fN,cE,mU,gU,bR,ha,hb,hos];refine zdr (Fm (σ.length+8) cap (gA a s.1 b[i]) rest b[i+1] _ (by omega) (by simp [fN])) ?_;rw [hps.2.1 (by omega)];apply Y;simp(disch:=omega)[fN,cE,mU,gU,bR,ha,hb,hos];apply Z;apply gI;refine rH (σ.length+5) 0 1 (σ.length+8) (gA a s.1 b[i]).length cap ((gA a s.1 b[i]).map D.int) _ ((gA a s.1 b[i]).map D.int++rest) (by simp [fN];rfl) rfl (by simp [fN]) (by omega) (by decide) (by simp [hrest];omega) (by simp) hes (by rw [gH (f:=D.int) (fun _=>rfl)];exact cD _ _) ?_;simp only [mU,gR,eQ,bM,aP,aN,bB,bT,dF,Nat.reduceAdd];refine zk [7,8,13,14,15] ?_;refine zr q50_3 fun _ _ Z=>?_;refine zs 3 fun _ Y=>?_;simp(disch:=omega)[fN,cE,mU,gU,bR,ha,hb,hos];apply Y;refine aE fun _ Y=>?_;simp(disch:=omega)[fN,cE,mU,gU,bR,ha,hb,hos];refine cB (Iy (gA a s.1 b[i]) (xF b (gA a s.1 b[i]) i) b[i] _ (by omega) (by omega)) ?_;apply Y;simp(disch:=omega)[fN,cE,mU,gU,bR,ha,hb,hos];apply Z;refine zt q50_3 fun _ _ Z=>?_;simp(disch:=omega)[fN,cE,mU,gU,bR,ha,hb,hos];and_intros<;>(try omega);apply Z;apply gQ;refine⟨rfl,rfl,?_⟩;exact⟨[[]],by simp [Cp hi c3,hka]⟩
   apply zA;rw [<- hps.2.2 (by omega)];refine zk [7,8,13,14,15] ?_;refine zr q50_3 fun _ _ Z=>?_;refine zs 3 fun _ Y=>?_;simp(disch:=omega)[fN,cE,mU,gU,bR,ha,hb,hos];apply Y;refine aE fun _ Y=>?_;simp(disch:=omega)[fN,cE,mU,gU,bR,ha,hb,hos];refine cB (Iy (gA a s.1 b[i]) (xF b (gA a s.1 b[i]) i) b[i] _ (by omega) (by omega)) ?_;apply Y;simp(disch:=omega)[fN,cE,mU,gU,bR,ha,hb,hos];apply Z;refine zt q50_3 fun _ _ Z=>?_;simp(disch:=omega)[fN,cE,mU,gU,bR,ha,hb,hos];and_intros<;>(try omega);apply Z;apply gQ;refine⟨rfl,rfl,?_⟩;exact⟨[],by simp [Cp hi c3,hka]⟩
  have hka:¬b[i]∈a:=fun h=>by have:=Gx.2 h;omega
  have hgn:s.1=gA a s.1 b[i]:=by unfold gA;rw [aC hka]
  apply zA;rw [hgn];refine zr q50_3 fun _ _ Z=>?_;simp(disch:=omega)[fN,cE,mU,gU,bR,ha,hb,hos];and_intros<;>(try omega);apply Z;apply aF;refine zk [3,7,8,12,13,14,15] ?_;refine zr q50_3 fun _ _ Z=>?_;simp(disch:=omega)[fN,cE,mU,gU,bR,ha,hb,hos];and_intros<;>(try omega);apply Z;refine zI ?_ ?_<;>intro c6<;>try simp at c6
  .refine nR (σ.length+5) 0 1 (es:=(gA a s.1 b[i]).map D.int) (by simp [fN];rfl) rfl (by decide) fun cap rest hcap hcm hrest hes=>?_;simp only [bI] at hcap hrest |-;rw [gH (f:=D.int) (fun _=>rfl)];simp only [mU,gR,eQ,bM,aP,aN,bB,bT,dF,Nat.reduceAdd];refine zk [3,7,8,12,13,14,15] ?_;refine ze q50_3 [.op {rO:=true},.op {rO:=true},.op {},.op {},.op {},.op {},.read,.op {}] fun all hall _ Z=>?_;refine iU 6 fun _ Y=>?_;simp(disch:=omega)[fN,cE,mU,gU,bR,ha,hb,hos];and_intros<;>(try omega);apply Y;refine dL fun _ Y=>?_;simp(disch:=omega)[fN,cE,mU,gU,bR,ha,hb,hos];refine zdr (Fm (σ.length+8) cap (gA a s.1 b[i]) rest b[i+1] _ (by omega) (by simp [fN])) ?_;rw [hps.2.1 (by omega)];apply Y;simp(disch:=omega)[fN,cE,mU,gU,bR,ha,hb,hos];apply Z;apply gI;refine rH (σ.length+5) 0 1 (σ.length+8) (gA a s.1 b[i]).length cap ((gA a s.1 b[i]).map D.int) _ ((gA a s.1 b[i]).map D.int++rest) (by simp [fN];rfl) rfl (by simp [fN]) (by omega) (by decide) (by simp [hrest];omega) (by simp) hes (by rw [gH (f:=D.int) (fun _=>rfl)];exact cD _ _) ?_;simp only [mU,gR,eQ,bM,aP,aN,bB,bT,dF,Nat.reduceAdd];refine zk [7,8,13,14,15] ?_;refine zr q50_3 fun _ _ Z=>?_;refine zs 3 fun _ Y=>?_;simp(disch:=omega)[fN,cE,mU,gU,bR,ha,hb,hos];apply Y;refine aE fun _ Y=>?_;simp(disch:=omega)[fN,cE,mU,gU,bR,ha,hb,hos];refine cB (Iy (gA a s.1 b[i]) (xF b (gA a s.1 b[i]) i) b[i] _ (by omega) (by omega)) ?_;apply Y;simp(disch:=omega)[fN,cE,mU,gU,bR,ha,hb,hos];apply Z;refine zt q50_3 fun _ _ Z=>?_;simp(disch:=omega)[fN,cE,mU,gU,bR,ha,hb,hos];and_intros<;>(try omega);apply Z;apply gQ;refine⟨rfl,rfl,?_⟩;exact⟨[[]],by simp [Cp hi c3,hka]⟩
  apply zA;rw [<- hps.2.2 (by omega)];refine zk [7,8,13,14,15] ?_;refine zr q50_3 fun _ _ Z=>?_;refine zs 3 fun _ Y=>?_;simp(disch:=omega)[fN,cE,mU,gU,bR,ha,hb,hos];apply Y;refine aE fun _ Y=>?_;simp(disch:=omega)[fN,cE,mU,gU,bR,ha,hb,hos];refine cB (Iy (gA a s.1 b[i]) (xF b (gA a s.1 b[i]) i) b[i] _ (by omega) (by omega)) ?_;apply Y;simp(disch:=omega)[fN,cE,mU,gU,bR,ha,hb,hos];apply Z;refine zt q50_3 fun _ _ Z=>?_;simp(disch:=omega)[fN,cE,mU,gU,bR,ha,hb,hos];and_intros<;>(try omega);apply Z;apply gQ;refine⟨rfl,rfl,?_⟩;exact⟨[],by simp [Cp hi c3,hka]⟩
 intro D0;rw [aSc];refine zr q50_3 fun _ _ Z=>?_;simp(disch:=omega)[fN,cE,mU,gU,bR,ha,hb,hos];apply Z;apply aD;refine⟨rfl,?_⟩;simp [aK,kY,ha,hb,hos]
theorem aKj(frm to:List Int)(σ:List (List D))(hf:frm.length<=10000)(ht:to.length<=10000):Ct prog 62 [.sl false (frm.map D.int),.sl false (to.map D.int)] σ (fun r σ'=>r= .sl true ((kY frm to).map aHf)/\σ'=σ):=
 xA (aEv frm to σ hf ht) fun r hr=>by rw [hr];exact aSt _ _
end Go.Proofs.YtbgfljpnhhdkoaaGreat
