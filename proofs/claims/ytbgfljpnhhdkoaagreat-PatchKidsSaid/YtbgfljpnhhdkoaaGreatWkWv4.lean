import Derived.Test.YtbgfljpnhhdkoaaGreatLisBs
import Derived.Test.YtbgfljpnhhdkoaaGreatWkWv2
import Derived.Test.YtbgfljpnhhdkoaaGreatWkAr9
open Go.Proofs.Tryz
set_option linter.all false
namespace Go.Proofs.YtbgfljpnhhdkoaaGreat
open Go Go.Vm
set_option maxRecDepth 20000
set_option maxHeartbeats 8000000
theorem aLa(N:Nat)(l:List Nat):Sc N (.xs 1 (dN l)):=Sc.xs fun e he y hy=>by
 obtain⟨a,_,rfl⟩:=List.mem_map.1 he;simp only [D.cells,List.mem_cons,List.not_mem_nil,or_false] at hy;subst hy;exact Sc.v _
theorem vM(l:List Int)(σ:List (List D))(hl:l.length≤1000000):Ct prog 144 [.sl false (l.map D.int)] σ (fun r σ'=>r= .mo (.int .i64) (bI l).length (rV (xD l) (bI l))∧σ'=σ):=
 rZ (Mt l σ hl) fun r hr=>by rw [hr];exact aHa _ _ _ _
theorem aAs(l:List Int)(σ:List (List D))(hl:l.length≤1000000)(hd:Lis.Dis l):Ct prog 210 [.sl false (l.map D.int)] σ (fun r σ'=>r= .sl false (dN (Lis.ofP l))∧σ'=σ):=
 (rZ ((Sb l σ hl hd).toX fun _ _ h=>h) fun r hr=>by rw [hr];exact aLa _ _).freeze fun _ _ h=>h
theorem zF(l:List Int)(x:Int):wU (rV (xD l) (bI l)) (.int .i64 x) (D.int 0) (D.int (at_ l x)) false∨wU (rV (xD l) (bI l)) (.int .i64 x) (D.int 0) (D.int (at_ l x)) true:=by
 have:=zK (xD l) (bI l) x
 rwa [aE0] at this
theorem aF1(N:Nat)(l:List Int):Sc N (.sl true (l.map D.int)):=Sc.sl fun d hd=>by
 obtain⟨a,_,rfl⟩:=List.mem_map.1 hd;exact Sc.v _
theorem aA0 {l:List Int} {k:Nat} (hk:k<l.length)(h:at_ l l[k]=(k:Int)+1):bI (l.take (k+1))=bI (l.take k)++ [l[k]]:=by rw [Eh hk,if_pos h]
theorem aFg {l:List Int} {k:Nat} (hk:k<l.length)(h:¬at_ l l[k]=(k:Int)+1):bI (l.take (k+1))=bI (l.take k):=by rw [Eh hk,if_neg h]
theorem Ql(l:List Int)(k:Nat):(bI (l.take k)).length≤k:=by
 have:=kK (l.take k);simp at this;omega
@[simp] abbrev qWv41:Cfg:=⟨[2,3,4,16,22,27],[],[],[],[]⟩
theorem Yl(l:List Int)(σ:List (List D))(hl:l.length≤1000000):Ct prog 143 [.sl false (l.map D.int)] σ (fun r σ'=>r= .sl true ((bI l).map D.int)∧∃J,σ'=σ++J):=by
 refine zf (rs:=[.tmp 2]) func143 ntmps143 results143 ?_;simp only [aN];refine zr qWv41 fun _ _ Z=>?_;simp(disch:=omega);apply Z;refine zr qWv41 fun _ _ Z=>?_;refine zs 1 fun _ Y=>?_;simp(disch:=omega);apply Y;refine aE fun _ Y=>?_;simp(disch:=omega);refine bX (vM l _ hl) ?_;apply Y;simp(disch:=omega);apply Z;refine zr qWv41 fun _ _ Z=>?_;simp(disch:=omega);apply Z;apply aB;refine tK 3 rfl ?_;refine zr qWv41 fun _ _ Z=>?_;simp(disch:=omega);and_intros<;>(try omega);apply Z;apply aF;refine zk [2,3,4,9,10,11] ?_;refine bA (fun(k:Nat)=> [(11,.d (.int k)),(4,.d (.sl true ((bI (l.take k)).map D.int))),(3,.d (.mp σ.length (.int .i64) (bI l).length (rV (xD l) (bI l)))),(5,.d (.any)),(6,.d (.any))]) [3,4,5,6,11,12,13,14,15,16,17,18,19,20,21,22,23,24,25,26] (fun(k:Nat)=>k≤l.length) (fun(k:Nat)=>l.length - k) (0) (by simp <;> rfl) ?_ ?_ ?_
 ·simp [bI]
 ·simp
 rintro k hk;simp only [List.cons_append,List.nil_append];have hot:=Ql l k;refine zr qWv41 fun _ _ Z=>?_;simp(disch:=omega);apply Z;apply aB;refine zi ?_;refine⟨fun c1=>?_,fun c1=>?_⟩
 ·try simp at c1
  apply aD;apply aA;apply aB;apply aF;refine zr qWv41 fun _ _ Z=>?_;simp(disch:=omega);and_intros<;>(try omega);apply Z;refine zk [2,3,4,5,6,9,10,11] ?_;refine zr qWv41 fun _ _ Z=>?_;refine zs 3 fun _ Y=>?_;simp(disch:=omega);refine⟨_,⟨oM _,zF l _⟩,?_⟩;and_intros<;>(try omega);apply Y;simp(disch:=omega);and_intros<;>(try omega);apply Z;refine zi ?_;refine⟨fun c2=>?_,fun c2=>?_⟩
  ·try simp at c2
   have hon:=aA0 c1 c2;refine fK 16 3 rfl rfl ?_;refine zk [2,3,4,5,6,9,10,11] ?_;refine zt qWv41 fun _ _ Z=>?_;simp(disch:=omega);and_intros<;>(try omega);apply Z;apply aH;apply aA;refine zk [2,3,4,5,6,9,10,11] ?_;refine zt qWv41 fun _ _ Z=>?_;simp(disch:=omega);and_intros<;>(try omega);apply Z;refine zq (k+1) ?_ ?_ ?_
   ·omega
   ·try dsimp only
    omega
   simp(disch:=omega)[hon]
  try simp at c2
  have hon:=aFg c1 c2;refine fK 16 3 rfl rfl ?_;apply aD;apply aH;apply aA;refine zk [2,3,4,5,6,9,10,11] ?_;refine zt qWv41 fun _ _ Z=>?_;simp(disch:=omega);and_intros<;>(try omega);apply Z;refine zq (k+1) ?_ ?_ ?_
  ·omega
  ·try dsimp only
   omega
  simp(disch:=omega)[hon]
 try simp at c1
 apply aY;apply aX;apply aZ;apply aR;apply aA;refine zr qWv41 fun _ _ Z=>?_;simp(disch:=omega);apply Z;apply aC;simp [aK];rw [List.take_of_length_le (by omega)]
theorem Pl(l:List Int)(σ:List (List D))(hl:l.length≤1000000):Ct prog 143 [.sl false (l.map D.int)] σ (fun r σ'=>r= .sl true ((bI l).map D.int)∧σ'=σ):=
 rZ (Yl l σ hl) fun r hr=>by rw [hr];exact aF1 _ _
theorem aFo(x y:Int)(σ:List (List D))  :Ct prog 213 [D.int y,.adr [D.int x]] σ (fun r σ'=>r= .bool (decide (y=x))∧σ'=σ):=by
 refine zf (rs:=[.tmp 3]) func213 ntmps213 results213 ?_;simp only [aN];refine aW fun _ _ Z=>?_;simp;apply Z;refine aW fun _ _ Z=>?_;simp;apply Z;apply aC;simp [aK]
theorem aGx(l:List Int)(x:Int)(σ:List (List D))(hl:l.length≤1000000):Ct prog 147 [.xs 1 (l.map D.int),D.int x] σ (fun r σ'=>r= .xs 1 ((An l x).map D.int)∧σ'=σ):=by
 refine zf (rs:=[.tmp 4]) func147 ntmps147 results147 ?_;simp only [aN];refine zr ⟨[4,5,7],[3],[],[],[]⟩ fun _ _ Z=>?_;simp;apply Z;refine zr ⟨[4,5,7],[3],[],[],[]⟩ fun _ _ Z=>?_;refine zs 2 fun _ Y=>?_;simp;and_intros<;>(try omega);apply Y;refine aE fun _ Y=>?_;simp;refine bX (zZ l (fun y=>decide (y=x)) 213 [.adr [D.int x]] _ hl (by simp) (by simp) (fun y τ _=>aFo x y τ)) ?_;apply Y;simp;apply Z;apply aC;simp [aK,An]
theorem yL(l:List Int)(i:Nat)(x:Int)(σ:List (List D))(hl:l.length≤1000000)(hi:i≤l.length):Ct prog 149 [.xs 1 (l.map D.int),D.int i,D.int x] σ (fun r σ'=>r= .xs 1 ((dE l i x).map D.int)∧σ'=σ):=by
 refine zf (rs:=[.tmp 6]) func149 ntmps149 results149 ?_;simp only [aN];refine zr ⟨[6,7,8,11],[],[],[],[]⟩ fun _ _ Z=>?_;simp;apply Z;refine zr ⟨[6,7,8,11],[],[],[],[]⟩ fun _ _ Z=>?_;refine zs 4 fun _ Y=>?_;simp;and_intros<;>(try omega);apply Y;refine aE fun _ Y=>?_;simp;refine bX (Gx l x i _ hl hi) ?_;apply Y;simp;apply Z;apply aC;simp [aK]
theorem Hw(l:List Int)(σ:List (List D))  :Ct prog 146 [.sl false (l.map D.int)] σ (fun r σ'=>r= .clo (.func 211) [] [.adr [.sl false (l.map D.int)]]∧σ'=σ):=by
 refine zf (rs:=[.tmp 2]) func146 ntmps146 results146 ?_;simp only [aN];refine zr ⟨[],[1],[],[],[]⟩ fun _ _ Z=>?_;simp;apply Z;refine zr ⟨[],[1],[],[],[]⟩ fun _ _ Z=>?_;simp;and_intros<;>(try omega);apply Z;apply aC;simp [aK]
theorem rB {a b:List Int} {k:Nat} (hk:k<b.length)(h:b[k]∈a):eB a (b.take (k+1))=eB a (b.take k)++ [b[k]]:=by rw [Ao hk,if_pos h]
theorem uS {a b:List Int} {k:Nat} (hk:k<b.length)(h:¬b[k]∈a):eB a (b.take (k+1))=eB a (b.take k):=by rw [Ao hk,if_neg h]
theorem oA(a b:List Int):(eB a b).length≤b.length:=List.length_filter_le _ _
theorem Jg {a b:List Int} (hb:b.Nodup):(eB a b).Nodup:=hb.filter _
theorem Ef {a b:List Int} {x:Int} (h:x∈eB a b):x∈a:=by
 unfold eB at h;rw [List.mem_filter] at h;simpa using h.2
theorem aIb {a:List Int} {x y:Int} (hx:x∈a)(hy:y∈a)(h:at_ a x=at_ a y):x=y:=by
 obtain⟨i,hi,h1,h2,_⟩:=nX hx;obtain⟨j,hj,h3,h4,_⟩:=nX hy;unfold at_ at h;rw [if_pos hx,if_pos hy] at h;unfold xD at h;have:i=j:=by omega
 subst this;rw [← h2,← h4]
theorem Eo {a b:List Int} (hb:b.Nodup):Lis.Dis (fJ a b):=by
 intro i j hi hj h;have hi':i<(eB a b).length:=by simpa [fJ] using hi
 have hj':j<(eB a b).length:=by simpa [fJ] using hj
 rw [← uE hi,← uE hj] at h;simp only [fJ,List.getElem_map] at h;have:=aIb (Ef (List.getElem_mem hi')) (Ef (List.getElem_mem hj')) h;exact(List.getElem_inj (Jg hb)).1 this
theorem Su(a b:List Int) {k:Nat} (hk:k<(Lis.ofP (fJ a b)).length):(gJ a b).take (k+1)=(gJ a b).take k++ [((eB a b)[(Lis.ofP (fJ a b))[k]]?.getD 0)]:=by
 have h:k<(gJ a b).length:=by simpa [gJ] using hk
 rw [iL _ k h];simp [gJ]
theorem Tw {a b:List Int} {k:Nat} (hk:k<b.length)(h:b[k]∈a):fJ a (b.take (k+1))=fJ a (b.take k)++ [at_ a b[k]]:=by simp [fJ,rB hk h]
theorem aB1 {a b:List Int} {k:Nat} (hk:k<b.length)(h:¬b[k]∈a):fJ a (b.take (k+1))=fJ a (b.take k):=by simp [fJ,uS hk h]
theorem jA(a b:List Int):(fJ a b).length=(eB a b).length:=by simp [fJ]
theorem Yk(a b:List Int) {k:Nat} (hk:k<(Lis.ofP (fJ a b)).length)(h:(Lis.ofP (fJ a b))[k]<(eB a b).length):bI ((gJ a b).take (k+1))=lW (bI ((gJ a b).take k)) (eB a b)[(Lis.ofP (fJ a b))[k]]:=by
 rw [Su a b hk,sG,aH9 _ _ h]
theorem Sr(a b:List Int):(gJ a b).length=(Lis.ofP (fJ a b)).length:=by simp [gJ]
@[simp] abbrev qWv42:Cfg:=⟨[4,5,6,9,22,26,41,47],[],[],[],[]⟩
theorem aCe(a b:List Int)(m N c:Nat)(σ:List (List D))(hm:σ[m]?=some [.mp N (.int .i64) c (rV (xD a) (bI a))])(hb:b.Nodup)(hl:b.length≤100000):Ct prog 145 [.mref N,.sl false (b.map D.int)] σ (fun r σ'=>r= .mo (.int .i64) (bI (gJ a b)).length (rV (fun _=>1) (bI (gJ a b)))∧∃J,σ'=σ++J):=by
 refine zf (rs:=[.tmp 4]) func145 ntmps145 results145 ?_;simp only [aN];refine zr qWv42 fun _ _ Z=>?_;simp(disch:=omega);apply Z;refine zr qWv42 fun _ _ Z=>?_;simp(disch:=omega);apply Z;apply aB;refine zr qWv42 fun _ _ Z=>?_;simp(disch:=omega);and_intros<;>(try omega);apply Z;apply aF;refine zk [0,4,5,6,12,13,14] ?_;refine bA (fun(k:Nat)=> [(14,.d (.int k)),(5,.d (.sl true ((eB a (b.take k)).map D.int))),(6,.d (.sl true ((fJ a (b.take k)).map D.int))),(8,.d (.any))]) [5,6,8,14,15,16,17,18,19,20,21,22,23,24,25,26,27,28,29,30,31,32] (fun(k:Nat)=>k≤b.length) (fun(k:Nat)=>b.length - k) (0) (by simp <;> rfl) ?_ ?_ ?_
 ·simp [eB,fJ]
 ·simp
 rintro k hk;simp only [List.cons_append,List.nil_append];have hil:=oA a (b.take k);have hol:=jA a (b.take k);simp only [List.length_take] at hil;refine zr qWv42 fun _ _ Z=>?_;simp(disch:=omega);apply Z;apply aB;refine zi ?_;refine⟨fun c1=>?_,fun c1=>?_⟩
 ·try simp at c1
  apply aD;apply aA;apply aB;apply aF;refine zr qWv42 fun _ _ Z=>?_;simp(disch:=omega);and_intros<;>(try omega);apply Z;refine zk [0,4,5,6,8,12,13,14] ?_;refine zr qWv42 fun _ _ Z=>?_;refine zs 3 fun _ Y=>?_;simp(disch:=omega);refine⟨m,0,c,_,D.int (at_ a b[k]),⟨⟨_,hm,rfl⟩,oM _,zF a _⟩,?_⟩;and_intros<;>(try omega);apply Y;simp(disch:=omega);apply Z;refine zi ?_;refine⟨fun c2=>?_,fun c2=>?_⟩
  ·try simp at c2
   have hmem:=vF.1 c2;have hkI:=rB c1 hmem;have hkO:=Tw c1 hmem;refine zk [0,4,5,6,8,12,13,14] ?_;refine ze qWv42 [.op {},.op {},.op {},.op {},.op {},.op {},.op {},.op {rO:=true},.op {},.op {},.op {},.op {}] fun all hall _ Z=>?_;refine eR 8 fun _ Y=>?_;simp(disch:=omega);refine⟨by omega,m,0,c,_,D.int (at_ a b[k]),⟨⟨_,hm,rfl⟩,oM _,zF a _⟩,?_⟩;and_intros<;>(try omega);apply Y;simp(disch:=omega);and_intros<;>(try omega);apply Z;apply aH;apply aA;refine zk [0,4,5,6,8,12,13,14] ?_;refine zt qWv42 fun _ _ Z=>?_;simp(disch:=omega);and_intros<;>(try omega);apply Z;refine zq (k+1) ?_ ?_ ?_
   ·omega
   ·try dsimp only
    omega
   simp(disch:=omega)[hkI,hkO]
  try simp at c2
  have hmem:¬b[k]∈a:=fun h=>by have:=vF.2 h;omega
  have hkI:=uS c1 hmem;have hkO:=aB1 c1 hmem;apply aD;apply aH;apply aA;refine zk [0,4,5,6,8,12,13,14] ?_;refine zt qWv42 fun _ _ Z=>?_;simp(disch:=omega);and_intros<;>(try omega);apply Z;refine zq (k+1) ?_ ?_ ?_
  ·omega
  ·try dsimp only
   omega
  simp(disch:=omega)[hkI,hkO]
 try simp at c1
 obtain rfl:k=b.length:=by omega
 simp only [List.take_length];apply aY;apply aX;apply aZ;apply aR;apply aA;refine zr qWv42 fun _ _ Z=>?_;simp(disch:=omega);and_intros<;>(try omega);apply Z;apply aB;refine zr qWv42 fun _ _ Z=>?_;refine zs 1 fun _ Y=>?_;simp(disch:=omega);apply Y;refine aE fun _ Y=>?_;simp(disch:=omega);refine bX (aAs (fJ a b) _ (by have:=oA a b;have:=jA a b;omega) (Eo hb)) ?_;apply Y;simp(disch:=omega);and_intros<;>(try omega);apply Z;apply aF;refine zk [4,5,9,35,36,37] ?_;refine bA (fun(k:Nat)=> [(37,.d (.int k)),(9,.d (.mp σ.length (.int .i64) (bI ((gJ a b).take k)).length (rV (fun _=>1) (bI ((gJ a b).take k))))),(11,.d (.any))]) [9,11,37,38,39,40,41,42,43,44,45,46] (fun(k:Nat)=>k≤(Lis.ofP (fJ a b)).length) (fun(k:Nat)=>(Lis.ofP (fJ a b)).length - k) (0) (by simp <;> rfl) ?_ ?_ ?_
 ·simp [bI,rV]
 ·simp
 rintro k hk;simp only [List.cons_append,List.nil_append];have hpl:=Lis.ofP_len (fJ a b);have hpl2:=jA a b;have hpl3:=oA a b;refine zr qWv42 fun _ _ Z=>?_;simp(disch:=omega);apply Z;apply aB;refine zi ?_;refine⟨fun c3=>?_,fun c3=>?_⟩
 ·try simp at c3
  have hlt:(Lis.ofP (fJ a b))[k]<(eB a b).length:=by have:=Lis.ofP_lt (fJ a b) _ (List.getElem_mem c3);rwa [jA] at this
  have hsn:=Yk a b c3 hlt;apply aD;apply aA;apply aB;apply aF;refine zr qWv42 fun _ _ Z=>?_;simp(disch:=omega)[hlt];and_intros<;>(try omega);apply Z;refine zt qWv42 fun _ _ Z=>?_;simp(disch:=omega)[hlt];refine⟨41,_,_,⟨rfl,oM _,Jr (fun _=>1) _ _ 1 rfl⟩,?_⟩;and_intros<;>(try omega);apply Z;apply aH;apply aA;refine fK 41 9 rfl rfl ?_;refine zk [4,5,9,11,35,36,37] ?_;refine zt qWv42 fun _ _ Z=>?_;simp(disch:=omega)[hlt];and_intros<;>(try omega);apply Z;refine zq (k+1) ?_ ?_ ?_
  ·omega
  ·try dsimp only
   omega
  simp(disch:=omega)[hsn,hlt]
 try simp at c3
 obtain rfl:k=(Lis.ofP (fJ a b)).length:=by omega
 apply aY;apply aX;apply aZ;apply aR;apply aA;refine zr qWv42 fun _ _ Z=>?_;simp(disch:=omega);apply Z;refine zJ 4 rfl ?_;apply aC;simp [aK,← Sr]
set_option maxRecDepth 20000
set_option maxHeartbeats 8000000
theorem aGb(a b:List Int)(m N c:Nat)(σ:List (List D))(hm:σ[m]?=some [.mp N (.int .i64) c (rV (xD a) (bI a))])(hb:b.Nodup)(hl:b.length≤100000):Ct prog 145 [.mref N,.sl false (b.map D.int)] σ (fun r σ'=>r= .mo (.int .i64) (bI (gJ a b)).length (rV (fun _=>1) (bI (gJ a b)))∧σ'=σ):=
 rZ (aCe a b m N c σ hm hb hl) fun r hr=>by rw [hr];exact aHa _ _ _ _
theorem aEw {b:List Int} {k:Nat} {p:D×D} (h:(Zs b)[k]?=some p):∃(i:Nat) (hi:i<b.length),k<b.length∧b.length - 1 - k=i∧p=(D.int i,D.int b[i]):=by
 unfold Zs at h;rw [List.getElem?_map,Option.map_eq_some_iff] at h;obtain⟨i,h1,rfl⟩:=h;obtain⟨hk,h2⟩:=List.getElem?_eq_some_iff.1 h1;have hk':k<b.length:=by simpa using hk
 rw [List.getElem_reverse] at h2;simp at h2;subst h2;exact⟨_,by omega,hk',rfl,by rw [aH9 _ _ (by omega)]⟩
theorem Xr(b:List Int):∀p∈Zs b,p.1.flat=true∧p.2.flat=true:=by
 intro p hp;unfold Zs at hp;obtain⟨i,_,rfl⟩:=List.mem_map.1 hp;exact⟨rfl,rfl⟩
theorem aEa(b:List Int):(Zs b).length=b.length:=by simp [Zs]
theorem gI(σ X:List (List D))(j:Nat):(σ++X)[σ.length+j]?=X[j]?:=by rw [List.getElem?_append_right (by omega),Nat.add_sub_cancel_left]
theorem dY(σ X:List (List D)):(σ++X)[σ.length]?=X[0]?:=gI σ X 0
theorem iE(σ X:List (List D))(j:Nat)(B:List D):(σ++X).set (σ.length+j) B=σ++X.set j B:=by rw [List.set_append_right _ _ (by omega),Nat.add_sub_cancel_left]
theorem dW(σ X:List (List D))(B:List D):(σ++X).set σ.length B=σ++X.set 0 B:=iE σ X 0 B
theorem aIq {N:Nat} {σ X Y:List (List D)} (h:∀cs∈X,∀d∈cs,Sc N d):∀(n:Nat) (cs:List D),(σ++X)[n]?=some cs→(σ++Y)[n]?=some cs∨∀d∈cs,Sc N d:=fun n cs hn=>by
 by_cases e:n<σ.length
 ·rw [List.getElem?_append_left e] at hn;exact .inl (by rw [List.getElem?_append_left e];exact hn)
 rw [List.getElem?_append_right (by omega)] at hn;exact .inr (h cs (List.mem_of_getElem? hn))
theorem aHh(N:Nat)(l:List ST):Sc N (.sl true (l.map Gr)):=Sc.sl fun d hd=>by
 obtain⟨a,_,rfl⟩:=List.mem_map.1 hd;exact Sc.agg fun e he=>by
  simp only [List.mem_cons,List.not_mem_nil,or_false] at he;rcases he with rfl | rfl | rfl <;> exact Sc.v _
theorem aG6 {N n:Nat} (h:n<N)(f:Int→Int)(c:Nat)(os:List Int):Sc N (.mp n (.int .i64) c (rV f os)):=Sc.mp h fun k s d hd=>by
 obtain⟨j,hj⟩:=List.getElem?_of_mem hd;rw [uU] at hj;cases hx:os[j]? with
 | none=>rw [hx] at hj;cases hj
 | some x=>rw [hx] at hj;simp at hj;rw [← hj.2.2];exact Sc.v _
theorem aIc(N:Nat)(o:Bool)(l:List Int):Sc N (.sl o (l.map D.int)):=Sc.sl fun d hd=>by
 obtain⟨a,_,rfl⟩:=List.mem_map.1 hd;exact Sc.v _
theorem aJ5 {N n1 n2:Nat} (h1:n1<N)(h2:n2<N)(b now:List Int)(f g:Int→Int)(c e:Nat)(ks os:List Int)(st:List ST):
  ∀cs∈([[.sl true (b.map D.int)], [], [.mp n1 (.int .i64) c (rV f ks)], [], [.sl true (st.map Gr)], [.xs 1 (now.map D.int)], [.mp n2 (.int .i64) e (rV g os)], []]:List (List D)),∀d∈cs,Sc N d:=by
 intro cs hcs d hd;simp only [List.mem_cons,List.not_mem_nil,or_false] at hcs;rcases hcs with rfl | rfl | rfl | rfl | rfl | rfl | rfl | rfl <;> simp only [List.mem_cons,List.not_mem_nil,or_false] at hd
 ·subst hd;exact aIc _ _ _
 ·subst hd;exact aG6 h1 _ _ _
 ·subst hd;exact aHh _ _
 ·subst hd;exact Vt _ _
 subst hd;exact aG6 h2 _ _ _
theorem Jw {a b:List Int} {k:Nat} (hk:k<a.length)(h:a[k]∈b):(a.take (k+1)).filter (fun x=>decide (x∈b))=(a.take k).filter (fun x=>decide (x∈b))++ [a[k]]:=by
 rw [iL a k hk,List.filter_append,List.filter_cons_of_pos (by simpa using h)];rfl
theorem Py {a b:List Int} {k:Nat} (hk:k<a.length)(h:¬a[k]∈b):(a.take (k+1)).filter (fun x=>decide (x∈b))=(a.take k).filter (fun x=>decide (x∈b)):=by
 rw [iL a k hk,List.filter_append,List.filter_cons_of_neg (by simpa using h),List.filter_nil,List.append_nil]
theorem Jk {a b:List Int} {k:Nat} (hk:k<a.length)(h:¬a[k]∈b):gB (a.take (k+1)) b=gB (a.take k) b++ [⟨1,a[k],0⟩]:=by
 unfold gB;rw [iL a k hk,List.filter_append,List.filter_cons_of_pos (by simpa using h),List.map_append];rfl
theorem Pm {a b:List Int} {k:Nat} (hk:k<a.length)(h:a[k]∈b):gB (a.take (k+1)) b=gB (a.take k) b:=by
 unfold gB;rw [iL a k hk,List.filter_append,List.filter_cons_of_neg (by simpa using h),List.filter_nil,List.append_nil]
theorem Ju(a b:List Int)(k:Nat):((a.take k).filter fun x=>decide (x∈b)).length≤k:=by
 have:=List.length_filter_le (fun x=>decide (x∈b)) (a.take k);simp at this;omega
theorem Ec(a b:List Int)(k:Nat):(gB (a.take k) b).length≤k:=by
 unfold gB;rw [List.length_map];have:=List.length_filter_le (fun x=> !decide (x∈b)) (a.take k);simp at this;omega
@[simp] abbrev qWv43:Cfg:=⟨[0,4,6,13,15,30,34,38,59,60,61,76,77,78,79,80,87],[],[3,7,8],[37,63],[]⟩
theorem Vz(frm to:List Int)(σ:List (List D))(hf:frm.length≤10000)(ht:to.length≤10000):Ct prog 62 [.sl false (frm.map D.int),.sl false (to.map D.int)] σ (fun r σ'=>r= .sl true ((eX frm to).map Gr)∧∃J,σ'=σ++J):=by
 refine zf (rs:=[.tmp 4]) func62 ntmps62 results62 ?_;simp only [aN];obtain⟨a,ha⟩:∃a,bI frm=a:=⟨_,rfl⟩;obtain⟨b,hb⟩:∃b,bI to=b:=⟨_,rfl⟩;have han:a.Nodup:=by rw [← ha];exact lE _
 have hbn:b.Nodup:=by rw [← hb];exact lE _
 have hal:a.length≤10000:=by rw [← ha];have:=kK frm;omega
 have hbl:b.length≤10000:=by rw [← hb];have:=kK to;omega
 obtain⟨os,hos⟩:∃os,bI (gJ a b)=os:=⟨_,rfl⟩;have hosm:∀x∈os,x∈a∧x∈b:=by rw [← hos];exact yZ fun i hi=>by have:=Lis.ofP_lt _ i hi;rwa [jA] at this
 refine zr qWv43 fun _ _ Z=>?_;simp(disch:=omega)[gI,dY,iE,dW,cF,ha,hb,hos];and_intros<;>(try omega);apply Z;refine zd qWv43 [.op {},.pure,.op {rO:=true},.pure,.op {},.op {rO:=true,wO:=true}] fun all hall _ Z=>?_;refine eR 1 fun _ Y=>?_;simp(disch:=omega)[gI,dY,iE,dW,cF,ha,hb,hos];apply Y;refine dI fun _ Y=>?_;simp(disch:=omega)[gI,dY,iE,dW,cF,ha,hb,hos];refine Hp (fun _=>(Pl frm _ (by omega))) ?_;apply Y;refine eR 1 fun _ Y=>?_;simp(disch:=omega)[gI,dY,iE,dW,cF,ha,hb,hos];apply Y;refine dI fun _ Y=>?_;simp(disch:=omega)[gI,dY,iE,dW,cF,ha,hb,hos];refine Hp (fun _=>(Pl to _ (by omega))) ?_;apply Y;simp(disch:=omega)[gI,dY,iE,dW,cF,ha,hb,hos];apply Z;refine zd qWv43 [.op {},.pure,.op {rO:=true},.pure,.op {rL:=true,wL:=true},.op {rL:=true,wL:=true},.op {}] fun all hall _ Z=>?_;refine eR 1 fun _ Y=>?_;simp(disch:=omega)[gI,dY,iE,dW,cF,ha,hb,hos];apply Y;refine dI fun _ Y=>?_;simp(disch:=omega)[gI,dY,iE,dW,cF,ha,hb,hos];refine Hp (fun _=>(vM a _ (by omega))) ?_;apply Y;refine eR 1 fun _ Y=>?_;simp(disch:=omega)[gI,dY,iE,dW,cF,ha,hb,hos];apply Y;refine dI fun _ Y=>?_;simp(disch:=omega)[gI,dY,iE,dW,cF,ha,hb,hos];refine Hp (fun _=>(vM b _ (by omega))) ?_;apply Y;simp(disch:=omega)[gI,dY,iE,dW,cF,ha,hb,hos];apply Z;refine tK 6 rfl ?_;refine Bg 5 0 rfl rfl ?_;simp only [List.append_assoc,List.cons_append,List.nil_append];refine tH (σ.length+2) 0 (by simp [gI];rfl) rfl ?_;simp only [iE,List.set_cons_succ,List.set_cons_zero,List.append_assoc,List.cons_append,List.nil_append,List.length_append,List.length_cons,List.length_nil,Nat.reduceAdd];refine zk [0,3,4,5,6] ?_;refine zr qWv43 fun _ _ Z=>?_;simp(disch:=omega)[gI,dY,iE,dW,cF,ha,hb,hos];and_intros<;>(try omega);apply Z;refine zr qWv43 fun _ _ Z=>?_;simp(disch:=omega)[gI,dY,iE,dW,cF,ha,hb,hos];and_intros<;>(try omega);apply Z;apply aB;refine qS (σ.length+5) 0 1 (by simp [gI];rfl) rfl ?_;simp only [iE,List.set_cons_succ,List.set_cons_zero];refine zr qWv43 fun _ _ Z=>?_;simp(disch:=omega)[gI,dY,iE,dW,cF,ha,hb,hos];and_intros<;>(try omega);apply Z;apply aF;refine zk [3,4,5,6,7,8,24,25,26] ?_;refine jT (fun(k:Nat)=> [(26,.d (.int k)),(6,.d (.mp (σ.length+1) (.int .i64) (bI b).length (rV (xD b) (bI b)))),(10,.d (.any))]) (fun(k:Nat)=> [[]]) (fun(k:Nat)=>σ++ [[.sl true (b.map D.int)], [], [.mp (σ.length+3) (.int .i64) (bI a).length (rV (xD a) (bI a))], [], [.sl true ((gB (a.take k) b).map Gr)], [.xs 1 (((a.take k).filter fun x=>decide (x∈b)).map D.int)]]) [6,10,26,27,28,29,30,31,32,33,34,35,36,37,38,39,40,41,42,43] (fun(k:Nat)=>k≤a.length) (fun(k:Nat)=>a.length - k) (0) (by simp <;> rfl) ?_ (by simp) (by simp [gB]) ?_ ?_
 ·simp
 ·simp
 rintro k hk;simp only [List.cons_append,List.nil_append];have hfl:=Ju a b k;have hdl:=Ec a b k;refine zr qWv43 fun _ _ Z=>?_;simp(disch:=omega)[gI,dY,iE,dW,cF,ha,hb,hos];apply Z;apply aB;refine zi ?_;refine⟨fun c1=>?_,fun c1=>?_⟩
 ·try simp at c1
  apply aD;apply aA;apply aB;apply aF;refine zr qWv43 fun _ _ Z=>?_;simp(disch:=omega)[gI,dY,iE,dW,cF,ha,hb,hos];and_intros<;>(try omega);apply Z;refine zk [3,4,5,6,7,8,10,24,25,26] ?_;refine zr qWv43 fun _ _ Z=>?_;refine zs 3 fun _ Y=>?_;simp(disch:=omega)[gI,dY,iE,dW,cF,ha,hb,hos];refine⟨_,⟨oM _,zF b _⟩,?_⟩;and_intros<;>(try omega);apply Y;simp(disch:=omega)[gI,dY,iE,dW,cF,ha,hb,hos];apply Z;refine zi ?_;refine⟨fun c2=>?_,fun c2=>?_⟩
  ·try simp at c2
   have hmem:=vF.1 c2;have hfi:=Jw c1 hmem;have hdr:=Pm c1 hmem;refine fK 30 6 rfl rfl ?_;refine zk [3,4,5,6,7,8,10,24,25,26] ?_;refine zt qWv43 fun _ _ Z=>?_;simp(disch:=omega)[gI,dY,iE,dW,cF,ha,hb,hos];and_intros<;>(try omega);apply Z;apply aH;apply aA;refine zk [3,4,5,6,7,8,10,24,25,26] ?_;refine zt qWv43 fun _ _ Z=>?_;simp(disch:=omega)[gI,dY,iE,dW,cF,ha,hb,hos];and_intros<;>(try omega);apply Z;refine dT (k+1) ?_ ?_ (dC rfl ?_ (by simp) (by simp [hfi,hdr]))
   ·omega
   ·try dsimp only
    omega
   simp(disch:=omega)[gI,dY,iE,dW,cF,ha,hb,hos]
  try simp at c2
  have hmem:¬a[k]∈b:=fun h=>by have:=vF.2 h;omega
  have hfi:=Py c1 hmem;have hdr:=Jk c1 hmem;refine fK 30 6 rfl rfl ?_;refine zk [3,4,5,6,7,8,10,24,25,26] ?_;refine zt qWv43 fun _ _ Z=>?_;simp(disch:=omega)[gI,dY,iE,dW,cF,ha,hb,hos];and_intros<;>(try omega);apply Z;apply aH;apply aA;refine zk [3,4,5,6,7,8,10,24,25,26] ?_;refine zt qWv43 fun _ _ Z=>?_;simp(disch:=omega)[gI,dY,iE,dW,cF,ha,hb,hos];and_intros<;>(try omega);apply Z;refine dT (k+1) ?_ ?_ (dC rfl ?_ (by simp) (by simp [hfi,hdr]))
  ·omega
  ·try dsimp only
   omega
  simp(disch:=omega)[gI,dY,iE,dW,cF,ha,hb,hos]
 try simp at c1
 obtain rfl:k=a.length:=by omega
 simp only [List.take_length];apply aY;apply aX;apply aZ;apply aR;apply aA;refine zr qWv43 fun _ _ Z=>?_;refine zs 2 fun _ Y=>?_;simp(disch:=omega)[gI,dY,iE,dW,cF,ha,hb,hos];apply Y;refine aE fun _ Y=>?_;simp(disch:=omega)[gI,dY,iE,dW,cF,ha,hb,hos];refine bX (aGb a b (σ.length+2) (σ.length+3) (bI a).length _ (by simp [gI]) hbn (by omega)) ?_;apply Y;simp(disch:=omega)[gI,dY,iE,dW,cF,ha,hb,hos];apply Z;refine Xg ?_;refine Bg 11 1 rfl rfl ?_;simp only [List.append_assoc,List.cons_append,List.nil_append];refine tH (σ.length+6) 0 (by simp [gI];rfl) rfl ?_;simp only [iE,List.set_cons_succ,List.set_cons_zero,List.append_assoc,List.cons_append,List.nil_append,List.length_append,List.length_cons,List.length_nil,Nat.reduceAdd];refine zk [3,4,5,7,8,11] ?_;refine zt qWv43 fun _ _ Z=>?_;refine zs 1 fun _ Y=>?_;simp(disch:=omega)[gI,dY,iE,dW,cF,ha,hb,hos];apply Y;refine aE fun _ Y=>?_;simp(disch:=omega)[gI,dY,iE,dW,cF,ha,hb,hos];refine bX (Hw b _) ?_;apply Y;simp only [dP];apply Z;refine zks [48,3,5,7,8,11] ?_;refine Wk (Zs b) (fun k:Nat=>σ++ [[.sl true (b.map D.int)], [], [.mp (σ.length+3) (.int .i64) (bI a).length (rV (xD a) (bI a))], [], [.sl true (((gS a b os k).2).map Gr)], [.xs 1 (((gS a b os k).1).map D.int)], [.mp (σ.length+7) (.int .i64) os.length (rV (fun _=>1) os)], []]) rfl (fun args w=>enters_of func211 (by kernel_rfl) rfl args w) (fun M bs lb hsz h=>aIm false b M bs lb (by simpa using hsz) h) (by repeat' (first | exact fun p hp=>absurd hp List.not_mem_nil | refine List.forall_mem_cons.2 ⟨⟨_,rfl,rfl⟩,?_⟩)) (Xr b) (by simp [gS]) (by decide) (by decide) (by simp) (fun k=>by simp) (fun k _=>aIq (aJ5 (by simp) (by simp) _ _ _ _ _ _ _ _ _)) ?_ ?_
 ·rintro lr k p hp;obtain⟨i,hi,hk,hik,rfl⟩:=aEw hp;dsimp only;obtain⟨s,hs⟩:∃s,gS a b os k=s:=⟨_,rfl⟩;have inv:=uI hbn hosm k (by omega);have hrl:=uN (a:=a) (b:=b) (os:=os) k;have hnx:gS a b os (k+1)=zQ a b os i (gS a b os k):=by rw [← hik];rfl
  rw [hs] at inv hrl hnx ⊢;rw [hnx];have hlen:=inv.len;have hgl:=Be a s.1 b[i];refine zr qWv43 fun _ _ Z=>?_;simp(disch:=omega)[gI,dY,iE,dW,cF,ha,hb,hos];apply Z;refine zt qWv43 fun _ _ Z=>?_;simp(disch:=omega)[gI,dY,iE,dW,cF,ha,hb,hos];apply Z;refine⟨rfl,?_⟩;apply aF;apply aB;refine zr qWv43 fun _ _ Z=>?_;refine zs 3 fun _ Y=>?_;simp(disch:=omega)[gI,dY,iE,dW,cF,ha,hb,hos];refine⟨σ.length+6,0,_,_,D.int (if b[i]∈os then 1 else 0),⟨⟨_,(by simp [gI];rfl),rfl⟩,oM _,zK (fun _=>1) _ _⟩,?_⟩;and_intros<;>(try omega);apply Y;simp(disch:=omega)[gI,dY,iE,dW,cF,ha,hb,hos];apply Z;refine zi ?_;refine⟨fun c3=>?_,fun c3=>?_⟩
  ·try simp at c3
   have c3:b[i]∈os:=Classical.byContradiction fun h=>by rw [if_neg h] at c3;omega
   apply aY;apply aX;apply aR;refine⟨rfl,rfl,?_⟩;exact⟨[],by simp [Mo hi c3]⟩
  try simp at c3
  have c3:¬b[i]∈os:=fun h=>by rw [if_pos h] at c3;omega
  have hps:=Nd hbn hk inv hik hi c3;apply aD;apply aA;refine zk [3,5,7,8,12,13] ?_;refine zr qWv43 fun _ _ Z=>?_;simp(disch:=omega)[gI,dY,iE,dW,cF,ha,hb,hos];apply Z;apply aB;refine zr qWv43 fun _ _ Z=>?_;refine zs 3 fun _ Y=>?_;simp(disch:=omega)[gI,dY,iE,dW,cF,ha,hb,hos];refine⟨σ.length+2,0,_,_,D.int (at_ a b[i]),⟨⟨_,(by simp [gI];rfl),rfl⟩,oM _,zF a _⟩,?_⟩;and_intros<;>(try omega);apply Y;simp(disch:=omega)[gI,dY,iE,dW,cF,ha,hb,hos];apply Z;refine zi ?_;refine⟨fun c4=>?_,fun c4=>?_⟩
  ·try simp at c4
   have hka:=vF.1 c4;have hgn:An s.1 b[i]=cS a s.1 b[i]:=by unfold cS;rw [if_pos hka]
   refine zr qWv43 fun _ _ Z=>?_;simp(disch:=omega)[gI,dY,iE,dW,cF,ha,hb,hos];apply Z;refine zk [3,7,8,12,13,14] ?_;refine zt qWv43 fun _ _ Z=>?_;refine zs 2 fun _ Y=>?_;simp(disch:=omega)[gI,dY,iE,dW,cF,ha,hb,hos];apply Y;refine aE fun _ Y=>?_;simp(disch:=omega)[gI,dY,iE,dW,cF,ha,hb,hos];refine bX (aGx s.1 b[i] _ (by omega)) ?_;apply Y;simp(disch:=omega)[gI,dY,iE,dW,cF,ha,hb,hos];apply Z;apply aA;rw [hgn];refine zr qWv43 fun _ _ Z=>?_;simp(disch:=omega)[gI,dY,iE,dW,cF,ha,hb,hos];and_intros<;>(try omega);apply Z;apply aB;refine zk [3,7,8,12,13,14,15] ?_;refine zr qWv43 fun _ _ Z=>?_;simp(disch:=omega)[gI,dY,iE,dW,cF,ha,hb,hos];and_intros<;>(try omega);apply Z;refine zi ?_;refine⟨fun c5=>?_,fun c5=>?_⟩
   ·try simp at c5
    refine iS (σ.length+5) 0 1 (es:=(cS a s.1 b[i]).map D.int) (by simp [gI];rfl) rfl (by decide) fun cap rest hcap hcm hrest hes=>?_;simp only [List.length_map] at hcap hrest ⊢;rw [dQ (f:=D.int) (fun _=>rfl)];simp only [iE,List.set_cons_succ,List.set_cons_zero,List.append_assoc,List.cons_append,List.nil_append,List.length_append,List.length_cons,List.length_nil,Nat.reduceAdd];refine zk [3,7,8,12,13,14,15] ?_;refine ze qWv43 [.op {rO:=true},.op {rO:=true},.op {},.op {},.op {},.op {},.read,.op {}] fun all hall _ Z=>?_;refine eR 6 fun _ Y=>?_;simp(disch:=omega)[gI,dY,iE,dW,cF,ha,hb,hos];and_intros<;>(try omega);apply Y;refine dI fun _ Y=>?_;simp(disch:=omega)[gI,dY,iE,dW,cF,ha,hb,hos];refine Wr (wE (σ.length+8) cap (cS a s.1 b[i]) rest b[i+1] _ (by omega) (by simp [gI])) ?_;rw [hps.2.1 (by omega)];apply Y;simp(disch:=omega)[gI,dY,iE,dW,cF,ha,hb,hos];apply Z;apply aA;refine lF (σ.length+5) 0 1 (σ.length+8) (cS a s.1 b[i]).length cap ((cS a s.1 b[i]).map D.int) _ ((cS a s.1 b[i]).map D.int++rest) (by simp [gI];rfl) rfl (by simp [gI]) (by omega) (by decide) (by simp [hrest];omega) (by simp) hes (by rw [dQ (f:=D.int) (fun _=>rfl)];exact List.prefix_append _ _) ?_;simp only [iE,List.set_cons_succ,List.set_cons_zero,List.append_assoc,List.cons_append,List.nil_append,List.length_append,List.length_cons,List.length_nil,Nat.reduceAdd];refine zk [7,8,13,14,15] ?_;refine zr qWv43 fun _ _ Z=>?_;refine zs 3 fun _ Y=>?_;simp(disch:=omega)[gI,dY,iE,dW,cF,ha,hb,hos];apply Y;refine aE fun _ Y=>?_;simp(disch:=omega)[gI,dY,iE,dW,cF,ha,hb,hos];refine bX (yL (cS a s.1 b[i]) (mZ b (cS a s.1 b[i]) i) b[i] _ (by omega) (by omega)) ?_;apply Y;simp(disch:=omega)[gI,dY,iE,dW,cF,ha,hb,hos];apply Z;refine zt qWv43 fun _ _ Z=>?_;simp(disch:=omega)[gI,dY,iE,dW,cF,ha,hb,hos];and_intros<;>(try omega);apply Z;apply aH;refine⟨rfl,rfl,?_⟩;exact⟨[[]],by simp [rJ hi c3,hka]⟩
   try simp at c5
   apply aD;apply aA;rw [← hps.2.2 (by omega)];refine zk [7,8,13,14,15] ?_;refine zr qWv43 fun _ _ Z=>?_;refine zs 3 fun _ Y=>?_;simp(disch:=omega)[gI,dY,iE,dW,cF,ha,hb,hos];apply Y;refine aE fun _ Y=>?_;simp(disch:=omega)[gI,dY,iE,dW,cF,ha,hb,hos];refine bX (yL (cS a s.1 b[i]) (mZ b (cS a s.1 b[i]) i) b[i] _ (by omega) (by omega)) ?_;apply Y;simp(disch:=omega)[gI,dY,iE,dW,cF,ha,hb,hos];apply Z;refine zt qWv43 fun _ _ Z=>?_;simp(disch:=omega)[gI,dY,iE,dW,cF,ha,hb,hos];and_intros<;>(try omega);apply Z;apply aH;refine⟨rfl,rfl,?_⟩;exact⟨[],by simp [rJ hi c3,hka]⟩
  try simp at c4
  have hka:¬b[i]∈a:=fun h=>by have:=vF.2 h;omega
  have hgn:s.1=cS a s.1 b[i]:=by unfold cS;rw [if_neg hka]
  apply aD;apply aA;rw [hgn];refine zr qWv43 fun _ _ Z=>?_;simp(disch:=omega)[gI,dY,iE,dW,cF,ha,hb,hos];and_intros<;>(try omega);apply Z;apply aB;refine zk [3,7,8,12,13,14,15] ?_;refine zr qWv43 fun _ _ Z=>?_;simp(disch:=omega)[gI,dY,iE,dW,cF,ha,hb,hos];and_intros<;>(try omega);apply Z;refine zi ?_;refine⟨fun c6=>?_,fun c6=>?_⟩
  ·try simp at c6
   refine iS (σ.length+5) 0 1 (es:=(cS a s.1 b[i]).map D.int) (by simp [gI];rfl) rfl (by decide) fun cap rest hcap hcm hrest hes=>?_;simp only [List.length_map] at hcap hrest ⊢;rw [dQ (f:=D.int) (fun _=>rfl)];simp only [iE,List.set_cons_succ,List.set_cons_zero,List.append_assoc,List.cons_append,List.nil_append,List.length_append,List.length_cons,List.length_nil,Nat.reduceAdd];refine zk [3,7,8,12,13,14,15] ?_;refine ze qWv43 [.op {rO:=true},.op {rO:=true},.op {},.op {},.op {},.op {},.read,.op {}] fun all hall _ Z=>?_;refine eR 6 fun _ Y=>?_;simp(disch:=omega)[gI,dY,iE,dW,cF,ha,hb,hos];and_intros<;>(try omega);apply Y;refine dI fun _ Y=>?_;simp(disch:=omega)[gI,dY,iE,dW,cF,ha,hb,hos];refine Wr (wE (σ.length+8) cap (cS a s.1 b[i]) rest b[i+1] _ (by omega) (by simp [gI])) ?_;rw [hps.2.1 (by omega)];apply Y;simp(disch:=omega)[gI,dY,iE,dW,cF,ha,hb,hos];apply Z;apply aA;refine lF (σ.length+5) 0 1 (σ.length+8) (cS a s.1 b[i]).length cap ((cS a s.1 b[i]).map D.int) _ ((cS a s.1 b[i]).map D.int++rest) (by simp [gI];rfl) rfl (by simp [gI]) (by omega) (by decide) (by simp [hrest];omega) (by simp) hes (by rw [dQ (f:=D.int) (fun _=>rfl)];exact List.prefix_append _ _) ?_;simp only [iE,List.set_cons_succ,List.set_cons_zero,List.append_assoc,List.cons_append,List.nil_append,List.length_append,List.length_cons,List.length_nil,Nat.reduceAdd];refine zk [7,8,13,14,15] ?_;refine zr qWv43 fun _ _ Z=>?_;refine zs 3 fun _ Y=>?_;simp(disch:=omega)[gI,dY,iE,dW,cF,ha,hb,hos];apply Y;refine aE fun _ Y=>?_;simp(disch:=omega)[gI,dY,iE,dW,cF,ha,hb,hos];refine bX (yL (cS a s.1 b[i]) (mZ b (cS a s.1 b[i]) i) b[i] _ (by omega) (by omega)) ?_;apply Y;simp(disch:=omega)[gI,dY,iE,dW,cF,ha,hb,hos];apply Z;refine zt qWv43 fun _ _ Z=>?_;simp(disch:=omega)[gI,dY,iE,dW,cF,ha,hb,hos];and_intros<;>(try omega);apply Z;apply aH;refine⟨rfl,rfl,?_⟩;exact⟨[[]],by simp [rJ hi c3,hka]⟩
  try simp at c6
  apply aD;apply aA;rw [← hps.2.2 (by omega)];refine zk [7,8,13,14,15] ?_;refine zr qWv43 fun _ _ Z=>?_;refine zs 3 fun _ Y=>?_;simp(disch:=omega)[gI,dY,iE,dW,cF,ha,hb,hos];apply Y;refine aE fun _ Y=>?_;simp(disch:=omega)[gI,dY,iE,dW,cF,ha,hb,hos];refine bX (yL (cS a s.1 b[i]) (mZ b (cS a s.1 b[i]) i) b[i] _ (by omega) (by omega)) ?_;apply Y;simp(disch:=omega)[gI,dY,iE,dW,cF,ha,hb,hos];apply Z;refine zt qWv43 fun _ _ Z=>?_;simp(disch:=omega)[gI,dY,iE,dW,cF,ha,hb,hos];and_intros<;>(try omega);apply Z;apply aH;refine⟨rfl,rfl,?_⟩;exact⟨[],by simp [rJ hi c3,hka]⟩
 intro D0;rw [aEa];refine zr qWv43 fun _ _ Z=>?_;simp(disch:=omega)[gI,dY,iE,dW,cF,ha,hb,hos];apply Z;apply aC;refine⟨rfl,?_⟩;simp [aK,eX,ha,hb,hos]
theorem Xu(frm to:List Int)(σ:List (List D))(hf:frm.length≤10000)(ht:to.length≤10000):Ct prog 62 [.sl false (frm.map D.int),.sl false (to.map D.int)] σ (fun r σ'=>r= .sl true ((eX frm to).map Gr)∧σ'=σ):=
 rZ (Vz frm to σ hf ht) fun r hr=>by rw [hr];exact aHh _ _
end Go.Proofs.YtbgfljpnhhdkoaaGreat
