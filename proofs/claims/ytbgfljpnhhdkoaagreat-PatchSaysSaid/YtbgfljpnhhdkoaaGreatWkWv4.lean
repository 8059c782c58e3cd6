import Derived.Test.YtbgfljpnhhdkoaaGreatLisBs
import Derived.Test.YtbgfljpnhhdkoaaGreatWkWv2
import Derived.Test.YtbgfljpnhhdkoaaGreatWkAr9
open Go.Proofs.Tryz
set_option linter.all false
namespace Go.Proofs.YtbgfljpnhhdkoaaGreat
open Go Go.Vm
set_option maxRecDepth 20000
set_option maxHeartbeats 8000000
theorem aKe(N:Nat)(l:List Nat):Sc N (.xs 1 (dN l)):=Sc.xs fun e he y hy=>by
 obtain⟨a,_,rfl⟩:=List.mem_map.1 he;simp only [D.cells,List.mem_cons,List.not_mem_nil,or_false] at hy;subst hy;exact Sc.v _
theorem vP(l:List Int)(σ:List (List D))(hl:l.length≤1000000):Ct prog 144 [.sl false (l.map D.int)] σ (fun r σ'=>r= .mo (.int .i64) (bW l).length (rM (xQ l) (bW l))∧σ'=σ):=
 rR (Lm l σ hl) fun r hr=>by rw [hr];exact aGj _ _ _ _
theorem aCf(l:List Int)(σ:List (List D))(hl:l.length≤1000000)(hd:Lis.Dis l):Ct prog 210 [.sl false (l.map D.int)] σ (fun r σ'=>r= .sl false (dN (Lis.ofP l))∧σ'=σ):=
 (rR ((Un l σ hl hd).toX fun _ _ h=>h) fun r hr=>by rw [hr];exact aKe _ _).freeze fun _ _ h=>h
theorem zH(l:List Int)(x:Int):vF (rM (xQ l) (bW l)) (.int .i64 x) (D.int 0) (D.int (at_ l x)) false∨vF (rM (xQ l) (bW l)) (.int .i64 x) (D.int 0) (D.int (at_ l x)) true:=by
 have:=Be (xQ l) (bW l) x
 rwa [aDl] at this
theorem aEy(N:Nat)(l:List Int):Sc N (.sl true (l.map D.int)):=Sc.sl fun d hd=>by
 obtain⟨a,_,rfl⟩:=List.mem_map.1 hd;exact Sc.v _
theorem aBl {l:List Int} {k:Nat} (hk:k<l.length)(h:at_ l l[k]=(k:Int)+1):bW (l.take (k+1))=bW (l.take k)++ [l[k]]:=by rw [Cl hk,if_pos h]
theorem aEr {l:List Int} {k:Nat} (hk:k<l.length)(h:¬at_ l l[k]=(k:Int)+1):bW (l.take (k+1))=bW (l.take k):=by rw [Cl hk,if_neg h]
theorem aDc(l:List Int)(k:Nat):(bW (l.take k)).length≤k:=by
 have:=nD (l.take k);simp at this;omega
@[simp] abbrev qWv41:Cfg:=⟨[2,3,4,16,22,27],[],[],[],[]⟩
theorem Zv(l:List Int)(σ:List (List D))(hl:l.length≤1000000):Ct prog 143 [.sl false (l.map D.int)] σ (fun r σ'=>r= .sl true ((bW l).map D.int)∧∃J,σ'=σ++J):=by
 refine zf (rs:=[.tmp 2]) func143 ntmps143 results143 ?_;simp only [aO];refine zr qWv41 fun _ _ Z=>?_;simp(disch:=omega);apply Z;refine zr qWv41 fun _ _ Z=>?_;refine zs 1 fun _ Y=>?_;simp(disch:=omega);apply Y;refine aD fun _ Y=>?_;simp(disch:=omega);refine cD (vP l _ hl) ?_;apply Y;simp(disch:=omega);apply Z;refine zr qWv41 fun _ _ Z=>?_;simp(disch:=omega);apply Z;apply aC;refine uJ 3 rfl ?_;refine zr qWv41 fun _ _ Z=>?_;simp(disch:=omega);and_intros<;>(try omega);apply Z;apply aH;refine zk [2,3,4,9,10,11] ?_;refine bE (fun(k:Nat)=> [(11,.d (.int k)),(4,.d (.sl true ((bW (l.take k)).map D.int))),(3,.d (.mp σ.length (.int .i64) (bW l).length (rM (xQ l) (bW l)))),(5,.d (.any)),(6,.d (.any))]) [3,4,5,6,11,12,13,14,15,16,17,18,19,20,21,22,23,24,25,26] (fun(k:Nat)=>k≤l.length) (fun(k:Nat)=>l.length - k) (0) (by simp <;> rfl) ?_ ?_ ?_
 ·simp [bW]
 ·simp
 rintro k hk;simp only [List.cons_append,List.nil_append];have hot:=aDc l k;refine zr qWv41 fun _ _ Z=>?_;simp(disch:=omega);apply Z;apply aC;refine zi ?_;refine⟨fun c1=>?_,fun c1=>?_⟩
 ·try simp at c1
  apply aE;apply aA;apply aC;apply aH;refine zr qWv41 fun _ _ Z=>?_;simp(disch:=omega);and_intros<;>(try omega);apply Z;refine zk [2,3,4,5,6,9,10,11] ?_;refine zr qWv41 fun _ _ Z=>?_;refine zs 3 fun _ Y=>?_;simp(disch:=omega);refine⟨_,⟨oH _,zH l _⟩,?_⟩;and_intros<;>(try omega);apply Y;simp(disch:=omega);and_intros<;>(try omega);apply Z;refine zi ?_;refine⟨fun c2=>?_,fun c2=>?_⟩
  ·try simp at c2
   have hon:=aBl c1 c2;refine fJ 16 3 rfl rfl ?_;refine zk [2,3,4,5,6,9,10,11] ?_;refine zt qWv41 fun _ _ Z=>?_;simp(disch:=omega);and_intros<;>(try omega);apply Z;apply aL;apply aA;refine zk [2,3,4,5,6,9,10,11] ?_;refine zt qWv41 fun _ _ Z=>?_;simp(disch:=omega);and_intros<;>(try omega);apply Z;refine zq (k+1) ?_ ?_ ?_
   ·omega
   ·try dsimp only
    omega
   simp(disch:=omega)[hon]
  try simp at c2
  have hon:=aEr c1 c2;refine fJ 16 3 rfl rfl ?_;apply aE;apply aL;apply aA;refine zk [2,3,4,5,6,9,10,11] ?_;refine zt qWv41 fun _ _ Z=>?_;simp(disch:=omega);and_intros<;>(try omega);apply Z;refine zq (k+1) ?_ ?_ ?_
  ·omega
  ·try dsimp only
   omega
  simp(disch:=omega)[hon]
 try simp at c1
 apply bA;apply aZ;apply bB;apply aW;apply aA;refine zr qWv41 fun _ _ Z=>?_;simp(disch:=omega);apply Z;apply aB;simp [aJ];rw [List.take_of_length_le (by omega)]
theorem Qa(l:List Int)(σ:List (List D))(hl:l.length≤1000000):Ct prog 143 [.sl false (l.map D.int)] σ (fun r σ'=>r= .sl true ((bW l).map D.int)∧σ'=σ):=
 rR (Zv l σ hl) fun r hr=>by rw [hr];exact aEy _ _
theorem aF3(x y:Int)(σ:List (List D))  :Ct prog 213 [D.int y,.adr [D.int x]] σ (fun r σ'=>r= .bool (decide (y=x))∧σ'=σ):=by
 refine zf (rs:=[.tmp 3]) func213 ntmps213 results213 ?_;simp only [aO];refine aV fun _ _ Z=>?_;simp;apply Z;refine aV fun _ _ Z=>?_;simp;apply Z;apply aB;simp [aJ]
theorem aFb(l:List Int)(x:Int)(σ:List (List D))(hl:l.length≤1000000):Ct prog 147 [.xs 1 (l.map D.int),D.int x] σ (fun r σ'=>r= .xs 1 ((zG l x).map D.int)∧σ'=σ):=by
 refine zf (rs:=[.tmp 4]) func147 ntmps147 results147 ?_;simp only [aO];refine zr ⟨[4,5,7],[3],[],[],[]⟩ fun _ _ Z=>?_;simp;apply Z;refine zr ⟨[4,5,7],[3],[],[],[]⟩ fun _ _ Z=>?_;refine zs 2 fun _ Y=>?_;simp;and_intros<;>(try omega);apply Y;refine aD fun _ Y=>?_;simp;refine cD (At l (fun y=>decide (y=x)) 213 [.adr [D.int x]] _ hl (by simp) (by simp) (fun y τ _=>aF3 x y τ)) ?_;apply Y;simp;apply Z;apply aB;simp [aJ,zG]
theorem xU(l:List Int)(i:Nat)(x:Int)(σ:List (List D))(hl:l.length≤1000000)(hi:i≤l.length):Ct prog 149 [.xs 1 (l.map D.int),D.int i,D.int x] σ (fun r σ'=>r= .xs 1 ((dK l i x).map D.int)∧σ'=σ):=by
 refine zf (rs:=[.tmp 6]) func149 ntmps149 results149 ?_;simp only [aO];refine zr ⟨[6,7,8,11],[],[],[],[]⟩ fun _ _ Z=>?_;simp;apply Z;refine zr ⟨[6,7,8,11],[],[],[],[]⟩ fun _ _ Z=>?_;refine zs 4 fun _ Y=>?_;simp;and_intros<;>(try omega);apply Y;refine aD fun _ Y=>?_;simp;refine cD (Ff l x i _ hl hi) ?_;apply Y;simp;apply Z;apply aB;simp [aJ]
theorem Hy(l:List Int)(σ:List (List D))  :Ct prog 146 [.sl false (l.map D.int)] σ (fun r σ'=>r= .clo (.func 211) [] [.adr [.sl false (l.map D.int)]]∧σ'=σ):=by
 refine zf (rs:=[.tmp 2]) func146 ntmps146 results146 ?_;simp only [aO];refine zr ⟨[],[1],[],[],[]⟩ fun _ _ Z=>?_;simp;apply Z;refine zr ⟨[],[1],[],[],[]⟩ fun _ _ Z=>?_;simp;and_intros<;>(try omega);apply Z;apply aB;simp [aJ]
theorem Da {a b:List Int} {k:Nat} (hk:k<b.length)(h:b[k]∈a):gF a (b.take (k+1))=gF a (b.take k)++ [b[k]]:=by rw [Bi hk,if_pos h]
theorem Jg {a b:List Int} {k:Nat} (hk:k<b.length)(h:¬b[k]∈a):gF a (b.take (k+1))=gF a (b.take k):=by rw [Bi hk,if_neg h]
theorem vB(a b:List Int):(gF a b).length≤b.length:=List.length_filter_le _ _
theorem Jv {a b:List Int} (hb:b.Nodup):(gF a b).Nodup:=hb.filter _
theorem Dt {a b:List Int} {x:Int} (h:x∈gF a b):x∈a:=by
 unfold gF at h;rw [List.mem_filter] at h;simpa using h.2
theorem aIr {a:List Int} {x y:Int} (hx:x∈a)(hy:y∈a)(h:at_ a x=at_ a y):x=y:=by
 obtain⟨i,hi,h1,h2,_⟩:=qF hx;obtain⟨j,hj,h3,h4,_⟩:=qF hy;unfold at_ at h;rw [if_pos hx,if_pos hy] at h;unfold xQ at h;have:i=j:=by omega
 subst this;rw [← h2,← h4]
theorem Rb {a b:List Int} (hb:b.Nodup):Lis.Dis (fT a b):=by
 intro i j hi hj h;have hi':i<(gF a b).length:=by simpa [fT] using hi
 have hj':j<(gF a b).length:=by simpa [fT] using hj
 rw [← tI hi,← tI hj] at h;simp only [fT,List.getElem_map] at h;have:=aIr (Dt (List.getElem_mem hi')) (Dt (List.getElem_mem hj')) h;exact(List.getElem_inj (Jv hb)).1 this
theorem Sq(a b:List Int) {k:Nat} (hk:k<(Lis.ofP (fT a b)).length):(iK a b).take (k+1)=(iK a b).take k++ [((gF a b)[(Lis.ofP (fT a b))[k]]?.getD 0)]:=by
 have h:k<(iK a b).length:=by simpa [iK] using hk
 rw [iN _ k h];simp [iK]
theorem Qv {a b:List Int} {k:Nat} (hk:k<b.length)(h:b[k]∈a):fT a (b.take (k+1))=fT a (b.take k)++ [at_ a b[k]]:=by simp [fT,Da hk h]
theorem aBs {a b:List Int} {k:Nat} (hk:k<b.length)(h:¬b[k]∈a):fT a (b.take (k+1))=fT a (b.take k):=by simp [fT,Jg hk h]
theorem lY(a b:List Int):(fT a b).length=(gF a b).length:=by simp [fT]
theorem Yi(a b:List Int) {k:Nat} (hk:k<(Lis.ofP (fT a b)).length)(h:(Lis.ofP (fT a b))[k]<(gF a b).length):bW ((iK a b).take (k+1))=mV (bW ((iK a b).take k)) (gF a b)[(Lis.ofP (fT a b))[k]]:=by
 rw [Sq a b hk,sF,aI9 _ _ h]
theorem Ts(a b:List Int):(iK a b).length=(Lis.ofP (fT a b)).length:=by simp [iK]
@[simp] abbrev qWv42:Cfg:=⟨[4,5,6,9,22,26,41,47],[],[],[],[]⟩
theorem aBz(a b:List Int)(m N c:Nat)(σ:List (List D))(hm:σ[m]?=some [.mp N (.int .i64) c (rM (xQ a) (bW a))])(hb:b.Nodup)(hl:b.length≤100000):Ct prog 145 [.mref N,.sl false (b.map D.int)] σ (fun r σ'=>r= .mo (.int .i64) (bW (iK a b)).length (rM (fun _=>1) (bW (iK a b)))∧∃J,σ'=σ++J):=by
 refine zf (rs:=[.tmp 4]) func145 ntmps145 results145 ?_;simp only [aO];refine zr qWv42 fun _ _ Z=>?_;simp(disch:=omega);apply Z;refine zr qWv42 fun _ _ Z=>?_;simp(disch:=omega);apply Z;apply aC;refine zr qWv42 fun _ _ Z=>?_;simp(disch:=omega);and_intros<;>(try omega);apply Z;apply aH;refine zk [0,4,5,6,12,13,14] ?_;refine bE (fun(k:Nat)=> [(14,.d (.int k)),(5,.d (.sl true ((gF a (b.take k)).map D.int))),(6,.d (.sl true ((fT a (b.take k)).map D.int))),(8,.d (.any))]) [5,6,8,14,15,16,17,18,19,20,21,22,23,24,25,26,27,28,29,30,31,32] (fun(k:Nat)=>k≤b.length) (fun(k:Nat)=>b.length - k) (0) (by simp <;> rfl) ?_ ?_ ?_
 ·simp [gF,fT]
 ·simp
 rintro k hk;simp only [List.cons_append,List.nil_append];have hil:=vB a (b.take k);have hol:=lY a (b.take k);simp only [List.length_take] at hil;refine zr qWv42 fun _ _ Z=>?_;simp(disch:=omega);apply Z;apply aC;refine zi ?_;refine⟨fun c1=>?_,fun c1=>?_⟩
 ·try simp at c1
  apply aE;apply aA;apply aC;apply aH;refine zr qWv42 fun _ _ Z=>?_;simp(disch:=omega);and_intros<;>(try omega);apply Z;refine zk [0,4,5,6,8,12,13,14] ?_;refine zr qWv42 fun _ _ Z=>?_;refine zs 3 fun _ Y=>?_;simp(disch:=omega);refine⟨m,0,c,_,D.int (at_ a b[k]),⟨⟨_,hm,rfl⟩,oH _,zH a _⟩,?_⟩;and_intros<;>(try omega);apply Y;simp(disch:=omega);apply Z;refine zi ?_;refine⟨fun c2=>?_,fun c2=>?_⟩
  ·try simp at c2
   have hmem:=vE.1 c2;have hkI:=Da c1 hmem;have hkO:=Qv c1 hmem;refine zk [0,4,5,6,8,12,13,14] ?_;refine ze qWv42 [.op {},.op {},.op {},.op {},.op {},.op {},.op {},.op {rO:=true},.op {},.op {},.op {},.op {}] fun all hall _ Z=>?_;refine dJ 8 fun _ Y=>?_;simp(disch:=omega);refine⟨by omega,m,0,c,_,D.int (at_ a b[k]),⟨⟨_,hm,rfl⟩,oH _,zH a _⟩,?_⟩;and_intros<;>(try omega);apply Y;simp(disch:=omega);and_intros<;>(try omega);apply Z;apply aL;apply aA;refine zk [0,4,5,6,8,12,13,14] ?_;refine zt qWv42 fun _ _ Z=>?_;simp(disch:=omega);and_intros<;>(try omega);apply Z;refine zq (k+1) ?_ ?_ ?_
   ·omega
   ·try dsimp only
    omega
   simp(disch:=omega)[hkI,hkO]
  try simp at c2
  have hmem:¬b[k]∈a:=fun h=>by have:=vE.2 h;omega
  have hkI:=Jg c1 hmem;have hkO:=aBs c1 hmem;apply aE;apply aL;apply aA;refine zk [0,4,5,6,8,12,13,14] ?_;refine zt qWv42 fun _ _ Z=>?_;simp(disch:=omega);and_intros<;>(try omega);apply Z;refine zq (k+1) ?_ ?_ ?_
  ·omega
  ·try dsimp only
   omega
  simp(disch:=omega)[hkI,hkO]
 try simp at c1
 obtain rfl:k=b.length:=by omega
 simp only [List.take_length];apply bA;apply aZ;apply bB;apply aW;apply aA;refine zr qWv42 fun _ _ Z=>?_;simp(disch:=omega);and_intros<;>(try omega);apply Z;apply aC;refine zr qWv42 fun _ _ Z=>?_;refine zs 1 fun _ Y=>?_;simp(disch:=omega);apply Y;refine aD fun _ Y=>?_;simp(disch:=omega);refine cD (aCf (fT a b) _ (by have:=vB a b;have:=lY a b;omega) (Rb hb)) ?_;apply Y;simp(disch:=omega);and_intros<;>(try omega);apply Z;apply aH;refine zk [4,5,9,35,36,37] ?_;refine bE (fun(k:Nat)=> [(37,.d (.int k)),(9,.d (.mp σ.length (.int .i64) (bW ((iK a b).take k)).length (rM (fun _=>1) (bW ((iK a b).take k))))),(11,.d (.any))]) [9,11,37,38,39,40,41,42,43,44,45,46] (fun(k:Nat)=>k≤(Lis.ofP (fT a b)).length) (fun(k:Nat)=>(Lis.ofP (fT a b)).length - k) (0) (by simp <;> rfl) ?_ ?_ ?_
 ·simp [bW,rM]
 ·simp
 rintro k hk;simp only [List.cons_append,List.nil_append];have hpl:=Lis.ofP_len (fT a b);have hpl2:=lY a b;have hpl3:=vB a b;refine zr qWv42 fun _ _ Z=>?_;simp(disch:=omega);apply Z;apply aC;refine zi ?_;refine⟨fun c3=>?_,fun c3=>?_⟩
 ·try simp at c3
  have hlt:(Lis.ofP (fT a b))[k]<(gF a b).length:=by have:=Lis.ofP_lt (fT a b) _ (List.getElem_mem c3);rwa [lY] at this
  have hsn:=Yi a b c3 hlt;apply aE;apply aA;apply aC;apply aH;refine zr qWv42 fun _ _ Z=>?_;simp(disch:=omega)[hlt];and_intros<;>(try omega);apply Z;refine zt qWv42 fun _ _ Z=>?_;simp(disch:=omega)[hlt];refine⟨41,_,_,⟨rfl,oH _,Kl (fun _=>1) _ _ 1 rfl⟩,?_⟩;and_intros<;>(try omega);apply Z;apply aL;apply aA;refine fJ 41 9 rfl rfl ?_;refine zk [4,5,9,11,35,36,37] ?_;refine zt qWv42 fun _ _ Z=>?_;simp(disch:=omega)[hlt];and_intros<;>(try omega);apply Z;refine zq (k+1) ?_ ?_ ?_
  ·omega
  ·try dsimp only
   omega
  simp(disch:=omega)[hsn,hlt]
 try simp at c3
 obtain rfl:k=(Lis.ofP (fT a b)).length:=by omega
 apply bA;apply aZ;apply bB;apply aW;apply aA;refine zr qWv42 fun _ _ Z=>?_;simp(disch:=omega);apply Z;refine yJ 4 rfl ?_;apply aB;simp [aJ,← Ts]
set_option maxRecDepth 20000
set_option maxHeartbeats 8000000
theorem aEs(a b:List Int)(m N c:Nat)(σ:List (List D))(hm:σ[m]?=some [.mp N (.int .i64) c (rM (xQ a) (bW a))])(hb:b.Nodup)(hl:b.length≤100000):Ct prog 145 [.mref N,.sl false (b.map D.int)] σ (fun r σ'=>r= .mo (.int .i64) (bW (iK a b)).length (rM (fun _=>1) (bW (iK a b)))∧σ'=σ):=
 rR (aBz a b m N c σ hm hb hl) fun r hr=>by rw [hr];exact aGj _ _ _ _
theorem aE5 {b:List Int} {k:Nat} {p:D×D} (h:(Vp b)[k]?=some p):∃(i:Nat) (hi:i<b.length),k<b.length∧b.length - 1 - k=i∧p=(D.int i,D.int b[i]):=by
 unfold Vp at h;rw [List.getElem?_map,Option.map_eq_some_iff] at h;obtain⟨i,h1,rfl⟩:=h;obtain⟨hk,h2⟩:=List.getElem?_eq_some_iff.1 h1;have hk':k<b.length:=by simpa using hk
 rw [List.getElem_reverse] at h2;simp at h2;subst h2;exact⟨_,by omega,hk',rfl,by rw [aI9 _ _ (by omega)]⟩
theorem Yb(b:List Int):∀p∈Vp b,p.1.flat=true∧p.2.flat=true:=by
 intro p hp;unfold Vp at hp;obtain⟨i,_,rfl⟩:=List.mem_map.1 hp;exact⟨rfl,rfl⟩
theorem aEn(b:List Int):(Vp b).length=b.length:=by simp [Vp]
theorem gJ(σ X:List (List D))(j:Nat):(σ++X)[σ.length+j]?=X[j]?:=by rw [List.getElem?_append_right (by omega),Nat.add_sub_cancel_left]
theorem dZ(σ X:List (List D)):(σ++X)[σ.length]?=X[0]?:=gJ σ X 0
theorem iA(σ X:List (List D))(j:Nat)(B:List D):(σ++X).set (σ.length+j) B=σ++X.set j B:=by rw [List.set_append_right _ _ (by omega),Nat.add_sub_cancel_left]
theorem dW(σ X:List (List D))(B:List D):(σ++X).set σ.length B=σ++X.set 0 B:=iA σ X 0 B
theorem aG9 {N:Nat} {σ X Y:List (List D)} (h:∀cs∈X,∀d∈cs,Sc N d):∀(n:Nat) (cs:List D),(σ++X)[n]?=some cs→(σ++Y)[n]?=some cs∨∀d∈cs,Sc N d:=fun n cs hn=>by
 by_cases e:n<σ.length
 ·rw [List.getElem?_append_left e] at hn;exact .inl (by rw [List.getElem?_append_left e];exact hn)
 rw [List.getElem?_append_right (by omega)] at hn;exact .inr (h cs (List.mem_of_getElem? hn))
theorem aGk(N:Nat)(l:List ST):Sc N (.sl true (l.map Uy)):=Sc.sl fun d hd=>by
 obtain⟨a,_,rfl⟩:=List.mem_map.1 hd;exact Sc.agg fun e he=>by
  simp only [List.mem_cons,List.not_mem_nil,or_false] at he;rcases he with rfl | rfl | rfl <;> exact Sc.v _
theorem aGf {N n:Nat} (h:n<N)(f:Int→Int)(c:Nat)(os:List Int):Sc N (.mp n (.int .i64) c (rM f os)):=Sc.mp h fun k s d hd=>by
 obtain⟨j,hj⟩:=List.getElem?_of_mem hd;rw [uG] at hj;cases hx:os[j]? with
 | none=>rw [hx] at hj;cases hj
 | some x=>rw [hx] at hj;simp at hj;rw [← hj.2.2];exact Sc.v _
theorem aGw(N:Nat)(o:Bool)(l:List Int):Sc N (.sl o (l.map D.int)):=Sc.sl fun d hd=>by
 obtain⟨a,_,rfl⟩:=List.mem_map.1 hd;exact Sc.v _
theorem aJd {N n1 n2:Nat} (h1:n1<N)(h2:n2<N)(b now:List Int)(f g:Int→Int)(c e:Nat)(ks os:List Int)(st:List ST):
  ∀cs∈([[.sl true (b.map D.int)], [], [.mp n1 (.int .i64) c (rM f ks)], [], [.sl true (st.map Uy)], [.xs 1 (now.map D.int)], [.mp n2 (.int .i64) e (rM g os)], []]:List (List D)),∀d∈cs,Sc N d:=by
 intro cs hcs d hd;simp only [List.mem_cons,List.not_mem_nil,or_false] at hcs;rcases hcs with rfl | rfl | rfl | rfl | rfl | rfl | rfl | rfl <;> simp only [List.mem_cons,List.not_mem_nil,or_false] at hd
 ·subst hd;exact aGw _ _ _
 ·subst hd;exact aGf h1 _ _ _
 ·subst hd;exact aGk _ _
 ·subst hd;exact Sj _ _
 subst hd;exact aGf h2 _ _ _
theorem Zi {a b:List Int} {k:Nat} (hk:k<a.length)(h:a[k]∈b):(a.take (k+1)).filter (fun x=>decide (x∈b))=(a.take k).filter (fun x=>decide (x∈b))++ [a[k]]:=by
 rw [iN a k hk,List.filter_append,List.filter_cons_of_pos (by simpa using h)];rfl
theorem aD8 {a b:List Int} {k:Nat} (hk:k<a.length)(h:¬a[k]∈b):(a.take (k+1)).filter (fun x=>decide (x∈b))=(a.take k).filter (fun x=>decide (x∈b)):=by
 rw [iN a k hk,List.filter_append,List.filter_cons_of_neg (by simpa using h),List.filter_nil,List.append_nil]
theorem Wl {a b:List Int} {k:Nat} (hk:k<a.length)(h:¬a[k]∈b):gK (a.take (k+1)) b=gK (a.take k) b++ [⟨1,a[k],0⟩]:=by
 unfold gK;rw [iN a k hk,List.filter_append,List.filter_cons_of_pos (by simpa using h),List.map_append];rfl
theorem aE4 {a b:List Int} {k:Nat} (hk:k<a.length)(h:a[k]∈b):gK (a.take (k+1)) b=gK (a.take k) b:=by
 unfold gK;rw [iN a k hk,List.filter_append,List.filter_cons_of_neg (by simpa using h),List.filter_nil,List.append_nil]
theorem Yh(a b:List Int)(k:Nat):((a.take k).filter fun x=>decide (x∈b)).length≤k:=by
 have:=List.length_filter_le (fun x=>decide (x∈b)) (a.take k);simp at this;omega
theorem Sl(a b:List Int)(k:Nat):(gK (a.take k) b).length≤k:=by
 unfold gK;rw [List.length_map];have:=List.length_filter_le (fun x=> !decide (x∈b)) (a.take k);simp at this;omega
@[simp] abbrev qWv43:Cfg:=⟨[0,4,6,13,15,30,34,38,59,60,61,76,77,78,79,80,87],[],[3,7,8],[37,63],[]⟩
theorem Tc(frm to:List Int)(σ:List (List D))(hf:frm.length≤10000)(ht:to.length≤10000):Ct prog 62 [.sl false (frm.map D.int),.sl false (to.map D.int)] σ (fun r σ'=>r= .sl true ((fZ frm to).map Uy)∧∃J,σ'=σ++J):=by
 refine zf (rs:=[.tmp 4]) func62 ntmps62 results62 ?_;simp only [aO];obtain⟨a,ha⟩:∃a,bW frm=a:=⟨_,rfl⟩;obtain⟨b,hb⟩:∃b,bW to=b:=⟨_,rfl⟩;have han:a.Nodup:=by rw [← ha];exact pO _
 have hbn:b.Nodup:=by rw [← hb];exact pO _
 have hal:a.length≤10000:=by rw [← ha];have:=nD frm;omega
 have hbl:b.length≤10000:=by rw [← hb];have:=nD to;omega
 obtain⟨os,hos⟩:∃os,bW (iK a b)=os:=⟨_,rfl⟩;have hosm:∀x∈os,x∈a∧x∈b:=by rw [← hos];exact Jx fun i hi=>by have:=Lis.ofP_lt _ i hi;rwa [lY] at this
 refine zr qWv43 fun _ _ Z=>?_;simp(disch:=omega)[gJ,dZ,iA,dW,cH,ha,hb,hos];and_intros<;>(try omega);apply Z;refine zd qWv43 [.op {},.pure,.op {rO:=true},.pure,.op {},.op {rO:=true,wO:=true}] fun all hall _ Z=>?_;refine dJ 1 fun _ Y=>?_;simp(disch:=omega)[gJ,dZ,iA,dW,cH,ha,hb,hos];apply Y;refine cG fun _ Y=>?_;simp(disch:=omega)[gJ,dZ,iA,dW,cH,ha,hb,hos];refine Cr (fun _=>(Qa frm _ (by omega))) ?_;apply Y;refine dJ 1 fun _ Y=>?_;simp(disch:=omega)[gJ,dZ,iA,dW,cH,ha,hb,hos];apply Y;refine cG fun _ Y=>?_;simp(disch:=omega)[gJ,dZ,iA,dW,cH,ha,hb,hos];refine Cr (fun _=>(Qa to _ (by omega))) ?_;apply Y;simp(disch:=omega)[gJ,dZ,iA,dW,cH,ha,hb,hos];apply Z;refine zd qWv43 [.op {},.pure,.op {rO:=true},.pure,.op {rL:=true,wL:=true},.op {rL:=true,wL:=true},.op {}] fun all hall _ Z=>?_;refine dJ 1 fun _ Y=>?_;simp(disch:=omega)[gJ,dZ,iA,dW,cH,ha,hb,hos];apply Y;refine cG fun _ Y=>?_;simp(disch:=omega)[gJ,dZ,iA,dW,cH,ha,hb,hos];refine Cr (fun _=>(vP a _ (by omega))) ?_;apply Y;refine dJ 1 fun _ Y=>?_;simp(disch:=omega)[gJ,dZ,iA,dW,cH,ha,hb,hos];apply Y;refine cG fun _ Y=>?_;simp(disch:=omega)[gJ,dZ,iA,dW,cH,ha,hb,hos];refine Cr (fun _=>(vP b _ (by omega))) ?_;apply Y;simp(disch:=omega)[gJ,dZ,iA,dW,cH,ha,hb,hos];apply Z;refine uJ 6 rfl ?_;refine Aa 5 0 rfl rfl ?_;simp only [List.append_assoc,List.cons_append,List.nil_append];refine uN (σ.length+2) 0 (by simp [gJ];rfl) rfl ?_;simp only [iA,List.set_cons_succ,List.set_cons_zero,List.append_assoc,List.cons_append,List.nil_append,List.length_append,List.length_cons,List.length_nil,Nat.reduceAdd];refine zk [0,3,4,5,6] ?_;refine zr qWv43 fun _ _ Z=>?_;simp(disch:=omega)[gJ,dZ,iA,dW,cH,ha,hb,hos];and_intros<;>(try omega);apply Z;refine zr qWv43 fun _ _ Z=>?_;simp(disch:=omega)[gJ,dZ,iA,dW,cH,ha,hb,hos];and_intros<;>(try omega);apply Z;apply aC;refine pM (σ.length+5) 0 1 (by simp [gJ];rfl) rfl ?_;simp only [iA,List.set_cons_succ,List.set_cons_zero];refine zr qWv43 fun _ _ Z=>?_;simp(disch:=omega)[gJ,dZ,iA,dW,cH,ha,hb,hos];and_intros<;>(try omega);apply Z;apply aH;refine zk [3,4,5,6,7,8,24,25,26] ?_;refine jU (fun(k:Nat)=> [(26,.d (.int k)),(6,.d (.mp (σ.length+1) (.int .i64) (bW b).length (rM (xQ b) (bW b)))),(10,.d (.any))]) (fun(k:Nat)=> [[]]) (fun(k:Nat)=>σ++ [[.sl true (b.map D.int)], [], [.mp (σ.length+3) (.int .i64) (bW a).length (rM (xQ a) (bW a))], [], [.sl true ((gK (a.take k) b).map Uy)], [.xs 1 (((a.take k).filter fun x=>decide (x∈b)).map D.int)]]) [6,10,26,27,28,29,30,31,32,33,34,35,36,37,38,39,40,41,42,43] (fun(k:Nat)=>k≤a.length) (fun(k:Nat)=>a.length - k) (0) (by simp <;> rfl) ?_ (by simp) (by simp [gK]) ?_ ?_
 ·simp
 ·simp
 rintro k hk;simp only [List.cons_append,List.nil_append];have hfl:=Yh a b k;have hdl:=Sl a b k;refine zr qWv43 fun _ _ Z=>?_;simp(disch:=omega)[gJ,dZ,iA,dW,cH,ha,hb,hos];apply Z;apply aC;refine zi ?_;refine⟨fun c1=>?_,fun c1=>?_⟩
 ·try simp at c1
  apply aE;apply aA;apply aC;apply aH;refine zr qWv43 fun _ _ Z=>?_;simp(disch:=omega)[gJ,dZ,iA,dW,cH,ha,hb,hos];and_intros<;>(try omega);apply Z;refine zk [3,4,5,6,7,8,10,24,25,26] ?_;refine zr qWv43 fun _ _ Z=>?_;refine zs 3 fun _ Y=>?_;simp(disch:=omega)[gJ,dZ,iA,dW,cH,ha,hb,hos];refine⟨_,⟨oH _,zH b _⟩,?_⟩;and_intros<;>(try omega);apply Y;simp(disch:=omega)[gJ,dZ,iA,dW,cH,ha,hb,hos];apply Z;refine zi ?_;refine⟨fun c2=>?_,fun c2=>?_⟩
  ·try simp at c2
   have hmem:=vE.1 c2;have hfi:=Zi c1 hmem;have hdr:=aE4 c1 hmem;refine fJ 30 6 rfl rfl ?_;refine zk [3,4,5,6,7,8,10,24,25,26] ?_;refine zt qWv43 fun _ _ Z=>?_;simp(disch:=omega)[gJ,dZ,iA,dW,cH,ha,hb,hos];and_intros<;>(try omega);apply Z;apply aL;apply aA;refine zk [3,4,5,6,7,8,10,24,25,26] ?_;refine zt qWv43 fun _ _ Z=>?_;simp(disch:=omega)[gJ,dZ,iA,dW,cH,ha,hb,hos];and_intros<;>(try omega);apply Z;refine dU (k+1) ?_ ?_ (dG rfl ?_ (by simp) (by simp [hfi,hdr]))
   ·omega
   ·try dsimp only
    omega
   simp(disch:=omega)[gJ,dZ,iA,dW,cH,ha,hb,hos]
  try simp at c2
  have hmem:¬a[k]∈b:=fun h=>by have:=vE.2 h;omega
  have hfi:=aD8 c1 hmem;have hdr:=Wl c1 hmem;refine fJ 30 6 rfl rfl ?_;refine zk [3,4,5,6,7,8,10,24,25,26] ?_;refine zt qWv43 fun _ _ Z=>?_;simp(disch:=omega)[gJ,dZ,iA,dW,cH,ha,hb,hos];and_intros<;>(try omega);apply Z;apply aL;apply aA;refine zk [3,4,5,6,7,8,10,24,25,26] ?_;refine zt qWv43 fun _ _ Z=>?_;simp(disch:=omega)[gJ,dZ,iA,dW,cH,ha,hb,hos];and_intros<;>(try omega);apply Z;refine dU (k+1) ?_ ?_ (dG rfl ?_ (by simp) (by simp [hfi,hdr]))
  ·omega
  ·try dsimp only
   omega
  simp(disch:=omega)[gJ,dZ,iA,dW,cH,ha,hb,hos]
 try simp at c1
 obtain rfl:k=a.length:=by omega
 simp only [List.take_length];apply bA;apply aZ;apply bB;apply aW;apply aA;refine zr qWv43 fun _ _ Z=>?_;refine zs 2 fun _ Y=>?_;simp(disch:=omega)[gJ,dZ,iA,dW,cH,ha,hb,hos];apply Y;refine aD fun _ Y=>?_;simp(disch:=omega)[gJ,dZ,iA,dW,cH,ha,hb,hos];refine cD (aEs a b (σ.length+2) (σ.length+3) (bW a).length _ (by simp [gJ]) hbn (by omega)) ?_;apply Y;simp(disch:=omega)[gJ,dZ,iA,dW,cH,ha,hb,hos];apply Z;refine aB7 ?_;refine Aa 11 1 rfl rfl ?_;simp only [List.append_assoc,List.cons_append,List.nil_append];refine uN (σ.length+6) 0 (by simp [gJ];rfl) rfl ?_;simp only [iA,List.set_cons_succ,List.set_cons_zero,List.append_assoc,List.cons_append,List.nil_append,List.length_append,List.length_cons,List.length_nil,Nat.reduceAdd];refine zk [3,4,5,7,8,11] ?_;refine zt qWv43 fun _ _ Z=>?_;refine zs 1 fun _ Y=>?_;simp(disch:=omega)[gJ,dZ,iA,dW,cH,ha,hb,hos];apply Y;refine aD fun _ Y=>?_;simp(disch:=omega)[gJ,dZ,iA,dW,cH,ha,hb,hos];refine cD (Hy b _) ?_;apply Y;simp only [dR];apply Z;refine zks [48,3,5,7,8,11] ?_;refine Tk (Vp b) (fun k:Nat=>σ++ [[.sl true (b.map D.int)], [], [.mp (σ.length+3) (.int .i64) (bW a).length (rM (xQ a) (bW a))], [], [.sl true (((jE a b os k).2).map Uy)], [.xs 1 (((jE a b os k).1).map D.int)], [.mp (σ.length+7) (.int .i64) os.length (rM (fun _=>1) os)], []]) rfl (fun args w=>enters_of func211 (by kernel_rfl) rfl args w) (fun M bs lb hsz h=>aG2 false b M bs lb (by simpa using hsz) h) (by repeat' (first | exact fun p hp=>absurd hp List.not_mem_nil | refine List.forall_mem_cons.2 ⟨⟨_,rfl,rfl⟩,?_⟩)) (Yb b) (by simp [jE]) (by decide) (by decide) (by simp) (fun k=>by simp) (fun k _=>aG9 (aJd (by simp) (by simp) _ _ _ _ _ _ _ _ _)) ?_ ?_
 ·rintro lr k p hp;obtain⟨i,hi,hk,hik,rfl⟩:=aE5 hp;dsimp only;obtain⟨s,hs⟩:∃s,jE a b os k=s:=⟨_,rfl⟩;have inv:=zW hbn hosm k (by omega);have hrl:=yX (a:=a) (b:=b) (os:=os) k;have hnx:jE a b os (k+1)=Bk a b os i (jE a b os k):=by rw [← hik];rfl
  rw [hs] at inv hrl hnx ⊢;rw [hnx];have hlen:=inv.len;have hgl:=Ib a s.1 b[i];refine zr qWv43 fun _ _ Z=>?_;simp(disch:=omega)[gJ,dZ,iA,dW,cH,ha,hb,hos];apply Z;refine zt qWv43 fun _ _ Z=>?_;simp(disch:=omega)[gJ,dZ,iA,dW,cH,ha,hb,hos];apply Z;refine⟨rfl,?_⟩;apply aH;apply aC;refine zr qWv43 fun _ _ Z=>?_;refine zs 3 fun _ Y=>?_;simp(disch:=omega)[gJ,dZ,iA,dW,cH,ha,hb,hos];refine⟨σ.length+6,0,_,_,D.int (if b[i]∈os then 1 else 0),⟨⟨_,(by simp [gJ];rfl),rfl⟩,oH _,Be (fun _=>1) _ _⟩,?_⟩;and_intros<;>(try omega);apply Y;simp(disch:=omega)[gJ,dZ,iA,dW,cH,ha,hb,hos];apply Z;refine zi ?_;refine⟨fun c3=>?_,fun c3=>?_⟩
  ·try simp at c3
   have c3:b[i]∈os:=Classical.byContradiction fun h=>by rw [if_neg h] at c3;omega
   apply bA;apply aZ;apply aW;refine⟨rfl,rfl,?_⟩;exact⟨[],by simp [aAh hi c3]⟩
  try simp at c3
  have c3:¬b[i]∈os:=fun h=>by rw [if_pos h] at c3;omega
  have hps:=aAi hbn hk inv hik hi c3;apply aE;apply aA;refine zk [3,5,7,8,12,13] ?_;refine zr qWv43 fun _ _ Z=>?_;simp(disch:=omega)[gJ,dZ,iA,dW,cH,ha,hb,hos];apply Z;apply aC;refine zr qWv43 fun _ _ Z=>?_;refine zs 3 fun _ Y=>?_;simp(disch:=omega)[gJ,dZ,iA,dW,cH,ha,hb,hos];refine⟨σ.length+2,0,_,_,D.int (at_ a b[i]),⟨⟨_,(by simp [gJ];rfl),rfl⟩,oH _,zH a _⟩,?_⟩;and_intros<;>(try omega);apply Y;simp(disch:=omega)[gJ,dZ,iA,dW,cH,ha,hb,hos];apply Z;refine zi ?_;refine⟨fun c4=>?_,fun c4=>?_⟩
  ·try simp at c4
   have hka:=vE.1 c4;have hgn:zG s.1 b[i]=dP a s.1 b[i]:=by unfold dP;rw [if_pos hka]
   refine zr qWv43 fun _ _ Z=>?_;simp(disch:=omega)[gJ,dZ,iA,dW,cH,ha,hb,hos];apply Z;refine zk [3,7,8,12,13,14] ?_;refine zt qWv43 fun _ _ Z=>?_;refine zs 2 fun _ Y=>?_;simp(disch:=omega)[gJ,dZ,iA,dW,cH,ha,hb,hos];apply Y;refine aD fun _ Y=>?_;simp(disch:=omega)[gJ,dZ,iA,dW,cH,ha,hb,hos];refine cD (aFb s.1 b[i] _ (by omega)) ?_;apply Y;simp(disch:=omega)[gJ,dZ,iA,dW,cH,ha,hb,hos];apply Z;apply aA;rw [hgn];refine zr qWv43 fun _ _ Z=>?_;simp(disch:=omega)[gJ,dZ,iA,dW,cH,ha,hb,hos];and_intros<;>(try omega);apply Z;apply aC;refine zk [3,7,8,12,13,14,15] ?_;refine zr qWv43 fun _ _ Z=>?_;simp(disch:=omega)[gJ,dZ,iA,dW,cH,ha,hb,hos];and_intros<;>(try omega);apply Z;refine zi ?_;refine⟨fun c5=>?_,fun c5=>?_⟩
   ·try simp at c5
    refine iH (σ.length+5) 0 1 (es:=(dP a s.1 b[i]).map D.int) (by simp [gJ];rfl) rfl (by decide) fun cap rest hcap hcm hrest hes=>?_;simp only [List.length_map] at hcap hrest ⊢;rw [dT (f:=D.int) (fun _=>rfl)];simp only [iA,List.set_cons_succ,List.set_cons_zero,List.append_assoc,List.cons_append,List.nil_append,List.length_append,List.length_cons,List.length_nil,Nat.reduceAdd];refine zk [3,7,8,12,13,14,15] ?_;refine ze qWv43 [.op {rO:=true},.op {rO:=true},.op {},.op {},.op {},.op {},.read,.op {}] fun all hall _ Z=>?_;refine dJ 6 fun _ Y=>?_;simp(disch:=omega)[gJ,dZ,iA,dW,cH,ha,hb,hos];and_intros<;>(try omega);apply Y;refine cG fun _ Y=>?_;simp(disch:=omega)[gJ,dZ,iA,dW,cH,ha,hb,hos];refine sR (uZ (σ.length+8) cap (dP a s.1 b[i]) rest b[i+1] _ (by omega) (by simp [gJ])) ?_;rw [hps.2.1 (by omega)];apply Y;simp(disch:=omega)[gJ,dZ,iA,dW,cH,ha,hb,hos];apply Z;apply aA;refine kX (σ.length+5) 0 1 (σ.length+8) (dP a s.1 b[i]).length cap ((dP a s.1 b[i]).map D.int) _ ((dP a s.1 b[i]).map D.int++rest) (by simp [gJ];rfl) rfl (by simp [gJ]) (by omega) (by decide) (by simp [hrest];omega) (by simp) hes (by rw [dT (f:=D.int) (fun _=>rfl)];exact List.prefix_append _ _) ?_;simp only [iA,List.set_cons_succ,List.set_cons_zero,List.append_assoc,List.cons_append,List.nil_append,List.length_append,List.length_cons,List.length_nil,Nat.reduceAdd];refine zk [7,8,13,14,15] ?_;refine zr qWv43 fun _ _ Z=>?_;refine zs 3 fun _ Y=>?_;simp(disch:=omega)[gJ,dZ,iA,dW,cH,ha,hb,hos];apply Y;refine aD fun _ Y=>?_;simp(disch:=omega)[gJ,dZ,iA,dW,cH,ha,hb,hos];refine cD (xU (dP a s.1 b[i]) (pA b (dP a s.1 b[i]) i) b[i] _ (by omega) (by omega)) ?_;apply Y;simp(disch:=omega)[gJ,dZ,iA,dW,cH,ha,hb,hos];apply Z;refine zt qWv43 fun _ _ Z=>?_;simp(disch:=omega)[gJ,dZ,iA,dW,cH,ha,hb,hos];and_intros<;>(try omega);apply Z;apply aL;refine⟨rfl,rfl,?_⟩;exact⟨[[]],by simp [tZ hi c3,hka]⟩
   try simp at c5
   apply aE;apply aA;rw [← hps.2.2 (by omega)];refine zk [7,8,13,14,15] ?_;refine zr qWv43 fun _ _ Z=>?_;refine zs 3 fun _ Y=>?_;simp(disch:=omega)[gJ,dZ,iA,dW,cH,ha,hb,hos];apply Y;refine aD fun _ Y=>?_;simp(disch:=omega)[gJ,dZ,iA,dW,cH,ha,hb,hos];refine cD (xU (dP a s.1 b[i]) (pA b (dP a s.1 b[i]) i) b[i] _ (by omega) (by omega)) ?_;apply Y;simp(disch:=omega)[gJ,dZ,iA,dW,cH,ha,hb,hos];apply Z;refine zt qWv43 fun _ _ Z=>?_;simp(disch:=omega)[gJ,dZ,iA,dW,cH,ha,hb,hos];and_intros<;>(try omega);apply Z;apply aL;refine⟨rfl,rfl,?_⟩;exact⟨[],by simp [tZ hi c3,hka]⟩
  try simp at c4
  have hka:¬b[i]∈a:=fun h=>by have:=vE.2 h;omega
  have hgn:s.1=dP a s.1 b[i]:=by unfold dP;rw [if_neg hka]
  apply aE;apply aA;rw [hgn];refine zr qWv43 fun _ _ Z=>?_;simp(disch:=omega)[gJ,dZ,iA,dW,cH,ha,hb,hos];and_intros<;>(try omega);apply Z;apply aC;refine zk [3,7,8,12,13,14,15] ?_;refine zr qWv43 fun _ _ Z=>?_;simp(disch:=omega)[gJ,dZ,iA,dW,cH,ha,hb,hos];and_intros<;>(try omega);apply Z;refine zi ?_;refine⟨fun c6=>?_,fun c6=>?_⟩
  ·try simp at c6
   refine iH (σ.length+5) 0 1 (es:=(dP a s.1 b[i]).map D.int) (by simp [gJ];rfl) rfl (by decide) fun cap rest hcap hcm hrest hes=>?_;simp only [List.length_map] at hcap hrest ⊢;rw [dT (f:=D.int) (fun _=>rfl)];simp only [iA,List.set_cons_succ,List.set_cons_zero,List.append_assoc,List.cons_append,List.nil_append,List.length_append,List.length_cons,List.length_nil,Nat.reduceAdd];refine zk [3,7,8,12,13,14,15] ?_;refine ze qWv43 [.op {rO:=true},.op {rO:=true},.op {},.op {},.op {},.op {},.read,.op {}] fun all hall _ Z=>?_;refine dJ 6 fun _ Y=>?_;simp(disch:=omega)[gJ,dZ,iA,dW,cH,ha,hb,hos];and_intros<;>(try omega);apply Y;refine cG fun _ Y=>?_;simp(disch:=omega)[gJ,dZ,iA,dW,cH,ha,hb,hos];refine sR (uZ (σ.length+8) cap (dP a s.1 b[i]) rest b[i+1] _ (by omega) (by simp [gJ])) ?_;rw [hps.2.1 (by omega)];apply Y;simp(disch:=omega)[gJ,dZ,iA,dW,cH,ha,hb,hos];apply Z;apply aA;refine kX (σ.length+5) 0 1 (σ.length+8) (dP a s.1 b[i]).length cap ((dP a s.1 b[i]).map D.int) _ ((dP a s.1 b[i]).map D.int++rest) (by simp [gJ];rfl) rfl (by simp [gJ]) (by omega) (by decide) (by simp [hrest];omega) (by simp) hes (by rw [dT (f:=D.int) (fun _=>rfl)];exact List.prefix_append _ _) ?_;simp only [iA,List.set_cons_succ,List.set_cons_zero,List.append_assoc,List.cons_append,List.nil_append,List.length_append,List.length_cons,List.length_nil,Nat.reduceAdd];refine zk [7,8,13,14,15] ?_;refine zr qWv43 fun _ _ Z=>?_;refine zs 3 fun _ Y=>?_;simp(disch:=omega)[gJ,dZ,iA,dW,cH,ha,hb,hos];apply Y;refine aD fun _ Y=>?_;simp(disch:=omega)[gJ,dZ,iA,dW,cH,ha,hb,hos];refine cD (xU (dP a s.1 b[i]) (pA b (dP a s.1 b[i]) i) b[i] _ (by omega) (by omega)) ?_;apply Y;simp(disch:=omega)[gJ,dZ,iA,dW,cH,ha,hb,hos];apply Z;refine zt qWv43 fun _ _ Z=>?_;simp(disch:=omega)[gJ,dZ,iA,dW,cH,ha,hb,hos];and_intros<;>(try omega);apply Z;apply aL;refine⟨rfl,rfl,?_⟩;exact⟨[[]],by simp [tZ hi c3,hka]⟩
  try simp at c6
  apply aE;apply aA;rw [← hps.2.2 (by omega)];refine zk [7,8,13,14,15] ?_;refine zr qWv43 fun _ _ Z=>?_;refine zs 3 fun _ Y=>?_;simp(disch:=omega)[gJ,dZ,iA,dW,cH,ha,hb,hos];apply Y;refine aD fun _ Y=>?_;simp(disch:=omega)[gJ,dZ,iA,dW,cH,ha,hb,hos];refine cD (xU (dP a s.1 b[i]) (pA b (dP a s.1 b[i]) i) b[i] _ (by omega) (by omega)) ?_;apply Y;simp(disch:=omega)[gJ,dZ,iA,dW,cH,ha,hb,hos];apply Z;refine zt qWv43 fun _ _ Z=>?_;simp(disch:=omega)[gJ,dZ,iA,dW,cH,ha,hb,hos];and_intros<;>(try omega);apply Z;apply aL;refine⟨rfl,rfl,?_⟩;exact⟨[],by simp [tZ hi c3,hka]⟩
 intro D0;rw [aEn];refine zr qWv43 fun _ _ Z=>?_;simp(disch:=omega)[gJ,dZ,iA,dW,cH,ha,hb,hos];apply Z;apply aB;refine⟨rfl,?_⟩;simp [aJ,fZ,ha,hb,hos]
theorem aCt(frm to:List Int)(σ:List (List D))(hf:frm.length≤10000)(ht:to.length≤10000):Ct prog 62 [.sl false (frm.map D.int),.sl false (to.map D.int)] σ (fun r σ'=>r= .sl true ((fZ frm to).map Uy)∧σ'=σ):=
 rR (Tc frm to σ hf ht) fun r hr=>by rw [hr];exact aGk _ _
end Go.Proofs.YtbgfljpnhhdkoaaGreat
