import Derived.Test.YtbgfljpnhhdkoaaGreatLisBs
import Derived.Test.YtbgfljpnhhdkoaaGreatWkWv2
import Derived.Test.YtbgfljpnhhdkoaaGreatWkAr9
open Go.Proofs.Tryz
set_option linter.all false
namespace Go.Proofs.YtbgfljpnhhdkoaaGreat
open Go Go.Vm
set_option maxRecDepth 20000
set_option maxHeartbeats 8000000
theorem aLa(N:Nat)(l:List Nat):Sc N (.xs 1 (dN l)):=Sc.xs fun e he y hy=>by
 obtain⟨a,_,rfl⟩:=List.mem_map.1 he;simp only [D.cells,List.mem_cons,List.not_mem_nil,or_false] at hy;subst hy;exact Sc.v _
theorem wI(l:List Int)(σ:List (List D))(hl:l.length≤1000000):Ct prog 144 [.sl false (l.map D.int)] σ (fun r σ'=>r= .mo (.int .i64) (bF l).length (rT (xK l) (bF l))∧σ'=σ):=
 xB (Oz l σ hl) fun r hr=>by rw [hr];exact aGr _ _ _ _
theorem aAv(l:List Int)(σ:List (List D))(hl:l.length≤1000000)(hd:Lis.Dis l):Ct prog 210 [.sl false (l.map D.int)] σ (fun r σ'=>r= .sl false (dN (Lis.ofP l))∧σ'=σ):=
 (xB ((Sk l σ hl hd).toX fun _ _ h=>h) fun r hr=>by rw [hr];exact aLa _ _).freeze fun _ _ h=>h
theorem Al(l:List Int)(x:Int):wE (rT (xK l) (bF l)) (.int .i64 x) (D.int 0) (D.int (at_ l x)) false∨wE (rT (xK l) (bF l)) (.int .i64 x) (D.int 0) (D.int (at_ l x)) true:=by
 have:=Bn (xK l) (bF l) x
 rwa [aEb] at this
theorem aDl(N:Nat)(l:List Int):Sc N (.sl true (l.map D.int)):=Sc.sl fun d hd=>by
 obtain⟨a,_,rfl⟩:=List.mem_map.1 hd;exact Sc.v _
theorem aAh {l:List Int} {k:Nat} (hk:k<l.length)(h:at_ l l[k]=(k:Int)+1):bF (l.take (k+1))=bF (l.take k)++ [l[k]]:=by rw [Ei hk,if_pos h]
theorem aE7 {l:List Int} {k:Nat} (hk:k<l.length)(h:¬at_ l l[k]=(k:Int)+1):bF (l.take (k+1))=bF (l.take k):=by rw [Ei hk,if_neg h]
theorem aDz(l:List Int)(k:Nat):(bF (l.take k)).length≤k:=by
 have:=nM (l.take k);simp at this;omega
@[simp] abbrev qWv41:Cfg:=⟨[2,3,4,16,22,27],[],[],[],[]⟩
theorem aBe(l:List Int)(σ:List (List D))(hl:l.length≤1000000):Ct prog 143 [.sl false (l.map D.int)] σ (fun r σ'=>r= .sl true ((bF l).map D.int)∧∃J,σ'=σ++J):=by
 refine zf (rs:=[.tmp 2]) func143 ntmps143 results143 ?_;simp only [aN];refine zr qWv41 fun _ _ Z=>?_;simp(disch:=omega);apply Z;refine zr qWv41 fun _ _ Z=>?_;refine zs 1 fun _ Y=>?_;simp(disch:=omega);apply Y;refine aD fun _ Y=>?_;simp(disch:=omega);refine cH (wI l _ hl) ?_;apply Y;simp(disch:=omega);apply Z;refine zr qWv41 fun _ _ Z=>?_;simp(disch:=omega);apply Z;apply aC;refine uF 3 rfl ?_;refine zr qWv41 fun _ _ Z=>?_;simp(disch:=omega);and_intros<;>(try omega);apply Z;apply aG;refine zk [2,3,4,9,10,11] ?_;refine bI (fun(k:Nat)=> [(11,.d (.int k)),(4,.d (.sl true ((bF (l.take k)).map D.int))),(3,.d (.mp σ.length (.int .i64) (bF l).length (rT (xK l) (bF l)))),(5,.d (.any)),(6,.d (.any))]) [3,4,5,6,11,12,13,14,15,16,17,18,19,20,21,22,23,24,25,26] (fun(k:Nat)=>k≤l.length) (fun(k:Nat)=>l.length - k) (0) (by simp <;> rfl) ?_ ?_ ?_
 ·simp [bF]
 ·simp
 rintro k hk;simp only [List.cons_append,List.nil_append];have hot:=aDz l k;refine zr qWv41 fun _ _ Z=>?_;simp(disch:=omega);apply Z;apply aC;refine zi ?_;refine⟨fun c1=>?_,fun c1=>?_⟩
 ·try simp at c1
  apply aE;apply aA;apply aC;apply aG;refine zr qWv41 fun _ _ Z=>?_;simp(disch:=omega);and_intros<;>(try omega);apply Z;refine zk [2,3,4,5,6,9,10,11] ?_;refine zr qWv41 fun _ _ Z=>?_;refine zs 3 fun _ Y=>?_;simp(disch:=omega);refine⟨_,⟨oP _,Al l _⟩,?_⟩;and_intros<;>(try omega);apply Y;simp(disch:=omega);and_intros<;>(try omega);apply Z;refine zi ?_;refine⟨fun c2=>?_,fun c2=>?_⟩
  ·try simp at c2
   have hon:=aAh c1 c2;refine fO 16 3 rfl rfl ?_;refine zk [2,3,4,5,6,9,10,11] ?_;refine zt qWv41 fun _ _ Z=>?_;simp(disch:=omega);and_intros<;>(try omega);apply Z;apply aK;apply aA;refine zk [2,3,4,5,6,9,10,11] ?_;refine zt qWv41 fun _ _ Z=>?_;simp(disch:=omega);and_intros<;>(try omega);apply Z;refine zq (k+1) ?_ ?_ ?_
   ·omega
   ·try dsimp only
    omega
   simp(disch:=omega)[hon]
  try simp at c2
  have hon:=aE7 c1 c2;refine fO 16 3 rfl rfl ?_;apply aE;apply aK;apply aA;refine zk [2,3,4,5,6,9,10,11] ?_;refine zt qWv41 fun _ _ Z=>?_;simp(disch:=omega);and_intros<;>(try omega);apply Z;refine zq (k+1) ?_ ?_ ?_
  ·omega
  ·try dsimp only
   omega
  simp(disch:=omega)[hon]
 try simp at c1
 apply bC;apply bB;apply bD;apply aX;apply aA;refine zr qWv41 fun _ _ Z=>?_;simp(disch:=omega);apply Z;apply aB;simp [aL];rw [List.take_of_length_le (by omega)]
theorem Qq(l:List Int)(σ:List (List D))(hl:l.length≤1000000):Ct prog 143 [.sl false (l.map D.int)] σ (fun r σ'=>r= .sl true ((bF l).map D.int)∧σ'=σ):=
 xB (aBe l σ hl) fun r hr=>by rw [hr];exact aDl _ _
theorem aEj(x y:Int)(σ:List (List D))  :Ct prog 213 [D.int y,.adr [D.int x]] σ (fun r σ'=>r= .bool (decide (y=x))∧σ'=σ):=by
 refine zf (rs:=[.tmp 3]) func213 ntmps213 results213 ?_;simp only [aN];refine aY fun _ _ Z=>?_;simp;apply Z;refine aY fun _ _ Z=>?_;simp;apply Z;apply aB;simp [aL]
theorem aEn(l:List Int)(x:Int)(σ:List (List D))(hl:l.length≤1000000):Ct prog 147 [.xs 1 (l.map D.int),D.int x] σ (fun r σ'=>r= .xs 1 ((uT l x).map D.int)∧σ'=σ):=by
 refine zf (rs:=[.tmp 4]) func147 ntmps147 results147 ?_;simp only [aN];refine zr ⟨[4,5,7],[3],[],[],[]⟩ fun _ _ Z=>?_;simp;apply Z;refine zr ⟨[4,5,7],[3],[],[],[]⟩ fun _ _ Z=>?_;refine zs 2 fun _ Y=>?_;simp;and_intros<;>(try omega);apply Y;refine aD fun _ Y=>?_;simp;refine cH (zK l (fun y=>decide (y=x)) 213 [.adr [D.int x]] _ hl (by simp) (by simp) (fun y τ _=>aEj x y τ)) ?_;apply Y;simp;apply Z;apply aB;simp [aL,uT]
theorem yN(l:List Int)(i:Nat)(x:Int)(σ:List (List D))(hl:l.length≤1000000)(hi:i≤l.length):Ct prog 149 [.xs 1 (l.map D.int),D.int i,D.int x] σ (fun r σ'=>r= .xs 1 ((dG l i x).map D.int)∧σ'=σ):=by
 refine zf (rs:=[.tmp 6]) func149 ntmps149 results149 ?_;simp only [aN];refine zr ⟨[6,7,8,11],[],[],[],[]⟩ fun _ _ Z=>?_;simp;apply Z;refine zr ⟨[6,7,8,11],[],[],[],[]⟩ fun _ _ Z=>?_;refine zs 4 fun _ Y=>?_;simp;and_intros<;>(try omega);apply Y;refine aD fun _ Y=>?_;simp;refine cH (Gg l x i _ hl hi) ?_;apply Y;simp;apply Z;apply aB;simp [aL]
theorem Ks(l:List Int)(σ:List (List D))  :Ct prog 146 [.sl false (l.map D.int)] σ (fun r σ'=>r= .clo (.func 211) [] [.adr [.sl false (l.map D.int)]]∧σ'=σ):=by
 refine zf (rs:=[.tmp 2]) func146 ntmps146 results146 ?_;simp only [aN];refine zr ⟨[],[1],[],[],[]⟩ fun _ _ Z=>?_;simp;apply Z;refine zr ⟨[],[1],[],[],[]⟩ fun _ _ Z=>?_;simp;and_intros<;>(try omega);apply Z;apply aB;simp [aL]
theorem Cs {a b:List Int} {k:Nat} (hk:k<b.length)(h:b[k]∈a):fF a (b.take (k+1))=fF a (b.take k)++ [b[k]]:=by rw [As hk,if_pos h]
theorem Jk {a b:List Int} {k:Nat} (hk:k<b.length)(h:¬b[k]∈a):fF a (b.take (k+1))=fF a (b.take k):=by rw [As hk,if_neg h]
theorem wD(a b:List Int):(fF a b).length≤b.length:=List.length_filter_le _ _
theorem Ky {a b:List Int} (hb:b.Nodup):(fF a b).Nodup:=hb.filter _
theorem Cw {a b:List Int} {x:Int} (h:x∈fF a b):x∈a:=by
 unfold fF at h;rw [List.mem_filter] at h;simpa using h.2
theorem aH4 {a:List Int} {x y:Int} (hx:x∈a)(hy:y∈a)(h:at_ a x=at_ a y):x=y:=by
 obtain⟨i,hi,h1,h2,_⟩:=jF hx;obtain⟨j,hj,h3,h4,_⟩:=jF hy;unfold at_ at h;rw [if_pos hx,if_pos hy] at h;unfold xK at h;have:i=j:=by omega
 subst this;rw [← h2,← h4]
theorem Dz {a b:List Int} (hb:b.Nodup):Lis.Dis (fI a b):=by
 intro i j hi hj h;have hi':i<(fF a b).length:=by simpa [fI] using hi
 have hj':j<(fF a b).length:=by simpa [fI] using hj
 rw [← uN hi,← uN hj] at h;simp only [fI,List.getElem_map] at h;have:=aH4 (Cw (List.getElem_mem hi')) (Cw (List.getElem_mem hj')) h;exact(List.getElem_inj (Ky hb)).1 this
theorem Ub(a b:List Int) {k:Nat} (hk:k<(Lis.ofP (fI a b)).length):(eC a b).take (k+1)=(eC a b).take k++ [((fF a b)[(Lis.ofP (fI a b))[k]]?.getD 0)]:=by
 have h:k<(eC a b).length:=by simpa [eC] using hk
 rw [iL _ k h];simp [eC]
theorem Sz {a b:List Int} {k:Nat} (hk:k<b.length)(h:b[k]∈a):fI a (b.take (k+1))=fI a (b.take k)++ [at_ a b[k]]:=by simp [fI,Cs hk h]
theorem aBf {a b:List Int} {k:Nat} (hk:k<b.length)(h:¬b[k]∈a):fI a (b.take (k+1))=fI a (b.take k):=by simp [fI,Jk hk h]
theorem kJ(a b:List Int):(fI a b).length=(fF a b).length:=by simp [fI]
theorem aBh(a b:List Int) {k:Nat} (hk:k<(Lis.ofP (fI a b)).length)(h:(Lis.ofP (fI a b))[k]<(fF a b).length):bF ((eC a b).take (k+1))=mV (bF ((eC a b).take k)) (fF a b)[(Lis.ofP (fI a b))[k]]:=by
 rw [Ub a b hk,sF,aKz _ _ h]
theorem Tn(a b:List Int):(eC a b).length=(Lis.ofP (fI a b)).length:=by simp [eC]
@[simp] abbrev qWv42:Cfg:=⟨[4,5,6,9,22,26,41,47],[],[],[],[]⟩
theorem aDf(a b:List Int)(m N c:Nat)(σ:List (List D))(hm:σ[m]?=some [.mp N (.int .i64) c (rT (xK a) (bF a))])(hb:b.Nodup)(hl:b.length≤100000):Ct prog 145 [.mref N,.sl false (b.map D.int)] σ (fun r σ'=>r= .mo (.int .i64) (bF (eC a b)).length (rT (fun _=>1) (bF (eC a b)))∧∃J,σ'=σ++J):=by
 refine zf (rs:=[.tmp 4]) func145 ntmps145 results145 ?_;simp only [aN];refine zr qWv42 fun _ _ Z=>?_;simp(disch:=omega);apply Z;refine zr qWv42 fun _ _ Z=>?_;simp(disch:=omega);apply Z;apply aC;refine zr qWv42 fun _ _ Z=>?_;simp(disch:=omega);and_intros<;>(try omega);apply Z;apply aG;refine zk [0,4,5,6,12,13,14] ?_;refine bI (fun(k:Nat)=> [(14,.d (.int k)),(5,.d (.sl true ((fF a (b.take k)).map D.int))),(6,.d (.sl true ((fI a (b.take k)).map D.int))),(8,.d (.any))]) [5,6,8,14,15,16,17,18,19,20,21,22,23,24,25,26,27,28,29,30,31,32] (fun(k:Nat)=>k≤b.length) (fun(k:Nat)=>b.length - k) (0) (by simp <;> rfl) ?_ ?_ ?_
 ·simp [fF,fI]
 ·simp
 rintro k hk;simp only [List.cons_append,List.nil_append];have hil:=wD a (b.take k);have hol:=kJ a (b.take k);simp only [List.length_take] at hil;refine zr qWv42 fun _ _ Z=>?_;simp(disch:=omega);apply Z;apply aC;refine zi ?_;refine⟨fun c1=>?_,fun c1=>?_⟩
 ·try simp at c1
  apply aE;apply aA;apply aC;apply aG;refine zr qWv42 fun _ _ Z=>?_;simp(disch:=omega);and_intros<;>(try omega);apply Z;refine zk [0,4,5,6,8,12,13,14] ?_;refine zr qWv42 fun _ _ Z=>?_;refine zs 3 fun _ Y=>?_;simp(disch:=omega);refine⟨m,0,c,_,D.int (at_ a b[k]),⟨⟨_,hm,rfl⟩,oP _,Al a _⟩,?_⟩;and_intros<;>(try omega);apply Y;simp(disch:=omega);apply Z;refine zi ?_;refine⟨fun c2=>?_,fun c2=>?_⟩
  ·try simp at c2
   have hmem:=vP.1 c2;have hkI:=Cs c1 hmem;have hkO:=Sz c1 hmem;refine zk [0,4,5,6,8,12,13,14] ?_;refine ze qWv42 [.op {},.op {},.op {},.op {},.op {},.op {},.op {},.op {rO:=true},.op {},.op {},.op {},.op {}] fun all hall _ Z=>?_;refine jD 8 fun _ Y=>?_;simp(disch:=omega);refine⟨by omega,m,0,c,_,D.int (at_ a b[k]),⟨⟨_,hm,rfl⟩,oP _,Al a _⟩,?_⟩;and_intros<;>(try omega);apply Y;simp(disch:=omega);and_intros<;>(try omega);apply Z;apply aK;apply aA;refine zk [0,4,5,6,8,12,13,14] ?_;refine zt qWv42 fun _ _ Z=>?_;simp(disch:=omega);and_intros<;>(try omega);apply Z;refine zq (k+1) ?_ ?_ ?_
   ·omega
   ·try dsimp only
    omega
   simp(disch:=omega)[hkI,hkO]
  try simp at c2
  have hmem:¬b[k]∈a:=fun h=>by have:=vP.2 h;omega
  have hkI:=Jk c1 hmem;have hkO:=aBf c1 hmem;apply aE;apply aK;apply aA;refine zk [0,4,5,6,8,12,13,14] ?_;refine zt qWv42 fun _ _ Z=>?_;simp(disch:=omega);and_intros<;>(try omega);apply Z;refine zq (k+1) ?_ ?_ ?_
  ·omega
  ·try dsimp only
   omega
  simp(disch:=omega)[hkI,hkO]
 try simp at c1
 obtain rfl:k=b.length:=by omega
 simp only [List.take_length];apply bC;apply bB;apply bD;apply aX;apply aA;refine zr qWv42 fun _ _ Z=>?_;simp(disch:=omega);and_intros<;>(try omega);apply Z;apply aC;refine zr qWv42 fun _ _ Z=>?_;refine zs 1 fun _ Y=>?_;simp(disch:=omega);apply Y;refine aD fun _ Y=>?_;simp(disch:=omega);refine cH (aAv (fI a b) _ (by have:=wD a b;have:=kJ a b;omega) (Dz hb)) ?_;apply Y;simp(disch:=omega);and_intros<;>(try omega);apply Z;apply aG;refine zk [4,5,9,35,36,37] ?_;refine bI (fun(k:Nat)=> [(37,.d (.int k)),(9,.d (.mp σ.length (.int .i64) (bF ((eC a b).take k)).length (rT (fun _=>1) (bF ((eC a b).take k))))),(11,.d (.any))]) [9,11,37,38,39,40,41,42,43,44,45,46] (fun(k:Nat)=>k≤(Lis.ofP (fI a b)).length) (fun(k:Nat)=>(Lis.ofP (fI a b)).length - k) (0) (by simp <;> rfl) ?_ ?_ ?_
 ·simp [bF,rT]
 ·simp
 rintro k hk;simp only [List.cons_append,List.nil_append];have hpl:=Lis.ofP_len (fI a b);have hpl2:=kJ a b;have hpl3:=wD a b;refine zr qWv42 fun _ _ Z=>?_;simp(disch:=omega);apply Z;apply aC;refine zi ?_;refine⟨fun c3=>?_,fun c3=>?_⟩
 ·try simp at c3
  have hlt:(Lis.ofP (fI a b))[k]<(fF a b).length:=by have:=Lis.ofP_lt (fI a b) _ (List.getElem_mem c3);rwa [kJ] at this
  have hsn:=aBh a b c3 hlt;apply aE;apply aA;apply aC;apply aG;refine zr qWv42 fun _ _ Z=>?_;simp(disch:=omega)[hlt];and_intros<;>(try omega);apply Z;refine zt qWv42 fun _ _ Z=>?_;simp(disch:=omega)[hlt];refine⟨41,_,_,⟨rfl,oP _,Jb (fun _=>1) _ _ 1 rfl⟩,?_⟩;and_intros<;>(try omega);apply Z;apply aK;apply aA;refine fO 41 9 rfl rfl ?_;refine zk [4,5,9,11,35,36,37] ?_;refine zt qWv42 fun _ _ Z=>?_;simp(disch:=omega)[hlt];and_intros<;>(try omega);apply Z;refine zq (k+1) ?_ ?_ ?_
  ·omega
  ·try dsimp only
   omega
  simp(disch:=omega)[hsn,hlt]
 try simp at c3
 obtain rfl:k=(Lis.ofP (fI a b)).length:=by omega
 apply bC;apply bB;apply bD;apply aX;apply aA;refine zr qWv42 fun _ _ Z=>?_;simp(disch:=omega);apply Z;refine zW 4 rfl ?_;apply aB;simp [aL,← Tn]
set_option maxRecDepth 20000
set_option maxHeartbeats 8000000
theorem aFa(a b:List Int)(m N c:Nat)(σ:List (List D))(hm:σ[m]?=some [.mp N (.int .i64) c (rT (xK a) (bF a))])(hb:b.Nodup)(hl:b.length≤100000):Ct prog 145 [.mref N,.sl false (b.map D.int)] σ (fun r σ'=>r= .mo (.int .i64) (bF (eC a b)).length (rT (fun _=>1) (bF (eC a b)))∧σ'=σ):=
 xB (aDf a b m N c σ hm hb hl) fun r hr=>by rw [hr];exact aGr _ _ _ _
theorem aFe {b:List Int} {k:Nat} {p:D×D} (h:(Yu b)[k]?=some p):∃(i:Nat) (hi:i<b.length),k<b.length∧b.length - 1 - k=i∧p=(D.int i,D.int b[i]):=by
 unfold Yu at h;rw [List.getElem?_map,Option.map_eq_some_iff] at h;obtain⟨i,h1,rfl⟩:=h;obtain⟨hk,h2⟩:=List.getElem?_eq_some_iff.1 h1;have hk':k<b.length:=by simpa using hk
 rw [List.getElem_reverse] at h2;simp at h2;subst h2;exact⟨_,by omega,hk',rfl,by rw [aKz _ _ (by omega)]⟩
theorem Xk(b:List Int):∀p∈Yu b,p.1.flat=true∧p.2.flat=true:=by
 intro p hp;unfold Yu at hp;obtain⟨i,_,rfl⟩:=List.mem_map.1 hp;exact⟨rfl,rfl⟩
theorem aGn(b:List Int):(Yu b).length=b.length:=by simp [Yu]
theorem gK(σ X:List (List D))(j:Nat):(σ++X)[σ.length+j]?=X[j]?:=by rw [List.getElem?_append_right (by omega),Nat.add_sub_cancel_left]
theorem dY(σ X:List (List D)):(σ++X)[σ.length]?=X[0]?:=gK σ X 0
theorem iG(σ X:List (List D))(j:Nat)(B:List D):(σ++X).set (σ.length+j) B=σ++X.set j B:=by rw [List.set_append_right _ _ (by omega),Nat.add_sub_cancel_left]
theorem dW(σ X:List (List D))(B:List D):(σ++X).set σ.length B=σ++X.set 0 B:=iG σ X 0 B
theorem aIu {N:Nat} {σ X Y:List (List D)} (h:∀cs∈X,∀d∈cs,Sc N d):∀(n:Nat) (cs:List D),(σ++X)[n]?=some cs→(σ++Y)[n]?=some cs∨∀d∈cs,Sc N d:=fun n cs hn=>by
 by_cases e:n<σ.length
 ·rw [List.getElem?_append_left e] at hn;exact .inl (by rw [List.getElem?_append_left e];exact hn)
 rw [List.getElem?_append_right (by omega)] at hn;exact .inr (h cs (List.mem_of_getElem? hn))
theorem aGv(N:Nat)(l:List ST):Sc N (.sl true (l.map Un)):=Sc.sl fun d hd=>by
 obtain⟨a,_,rfl⟩:=List.mem_map.1 hd;exact Sc.agg fun e he=>by
  simp only [List.mem_cons,List.not_mem_nil,or_false] at he;rcases he with rfl | rfl | rfl <;> exact Sc.v _
theorem aG0 {N n:Nat} (h:n<N)(f:Int→Int)(c:Nat)(os:List Int):Sc N (.mp n (.int .i64) c (rT f os)):=Sc.mp h fun k s d hd=>by
 obtain⟨j,hj⟩:=List.getElem?_of_mem hd;rw [tH] at hj;cases hx:os[j]? with
 | none=>rw [hx] at hj;cases hj
 | some x=>rw [hx] at hj;simp at hj;rw [← hj.2.2];exact Sc.v _
theorem aJl(N:Nat)(o:Bool)(l:List Int):Sc N (.sl o (l.map D.int)):=Sc.sl fun d hd=>by
 obtain⟨a,_,rfl⟩:=List.mem_map.1 hd;exact Sc.v _
theorem aKh {N n1 n2:Nat} (h1:n1<N)(h2:n2<N)(b now:List Int)(f g:Int→Int)(c e:Nat)(ks os:List Int)(st:List ST):
  ∀cs∈([[.sl true (b.map D.int)], [], [.mp n1 (.int .i64) c (rT f ks)], [], [.sl true (st.map Un)], [.xs 1 (now.map D.int)], [.mp n2 (.int .i64) e (rT g os)], []]:List (List D)),∀d∈cs,Sc N d:=by
 intro cs hcs d hd;simp only [List.mem_cons,List.not_mem_nil,or_false] at hcs;rcases hcs with rfl | rfl | rfl | rfl | rfl | rfl | rfl | rfl <;> simp only [List.mem_cons,List.not_mem_nil,or_false] at hd
 ·subst hd;exact aJl _ _ _
 ·subst hd;exact aG0 h1 _ _ _
 ·subst hd;exact aGv _ _
 ·subst hd;exact aB9 _ _
 subst hd;exact aG0 h2 _ _ _
theorem aBv {a b:List Int} {k:Nat} (hk:k<a.length)(h:a[k]∈b):(a.take (k+1)).filter (fun x=>decide (x∈b))=(a.take k).filter (fun x=>decide (x∈b))++ [a[k]]:=by
 rw [iL a k hk,List.filter_append,List.filter_cons_of_pos (by simpa using h)];rfl
theorem aFf {a b:List Int} {k:Nat} (hk:k<a.length)(h:¬a[k]∈b):(a.take (k+1)).filter (fun x=>decide (x∈b))=(a.take k).filter (fun x=>decide (x∈b)):=by
 rw [iL a k hk,List.filter_append,List.filter_cons_of_neg (by simpa using h),List.filter_nil,List.append_nil]
theorem Wh {a b:List Int} {k:Nat} (hk:k<a.length)(h:¬a[k]∈b):fC (a.take (k+1)) b=fC (a.take k) b++ [⟨1,a[k],0⟩]:=by
 unfold fC;rw [iL a k hk,List.filter_append,List.filter_cons_of_pos (by simpa using h),List.map_append];rfl
theorem aGb {a b:List Int} {k:Nat} (hk:k<a.length)(h:a[k]∈b):fC (a.take (k+1)) b=fC (a.take k) b:=by
 unfold fC;rw [iL a k hk,List.filter_append,List.filter_cons_of_neg (by simpa using h),List.filter_nil,List.append_nil]
theorem aAn(a b:List Int)(k:Nat):((a.take k).filter fun x=>decide (x∈b)).length≤k:=by
 have:=List.length_filter_le (fun x=>decide (x∈b)) (a.take k);simp at this;omega
theorem Ti(a b:List Int)(k:Nat):(fC (a.take k) b).length≤k:=by
 unfold fC;rw [List.length_map];have:=List.length_filter_le (fun x=> !decide (x∈b)) (a.take k);simp at this;omega
@[simp] abbrev qWv43:Cfg:=⟨[0,4,6,13,15,30,34,38,59,60,61,76,77,78,79,80,87],[],[3,7,8],[37,63],[]⟩
theorem So(frm to:List Int)(σ:List (List D))(hf:frm.length≤10000)(ht:to.length≤10000):Ct prog 62 [.sl false (frm.map D.int),.sl false (to.map D.int)] σ (fun r σ'=>r= .sl true ((eJ frm to).map Un)∧∃J,σ'=σ++J):=by
 refine zf (rs:=[.tmp 4]) func62 ntmps62 results62 ?_;simp only [aN];obtain⟨a,ha⟩:∃a,bF frm=a:=⟨_,rfl⟩;obtain⟨b,hb⟩:∃b,bF to=b:=⟨_,rfl⟩;have han:a.Nodup:=by rw [← ha];exact qE _
 have hbn:b.Nodup:=by rw [← hb];exact qE _
 have hal:a.length≤10000:=by rw [← ha];have:=nM frm;omega
 have hbl:b.length≤10000:=by rw [← hb];have:=nM to;omega
 obtain⟨os,hos⟩:∃os,bF (eC a b)=os:=⟨_,rfl⟩;have hosm:∀x∈os,x∈a∧x∈b:=by rw [← hos];exact zP fun i hi=>by have:=Lis.ofP_lt _ i hi;rwa [kJ] at this
 refine zr qWv43 fun _ _ Z=>?_;simp(disch:=omega)[gK,dY,iG,dW,cG,ha,hb,hos];and_intros<;>(try omega);apply Z;refine zd qWv43 [.op {},.pure,.op {rO:=true},.pure,.op {},.op {rO:=true,wO:=true}] fun all hall _ Z=>?_;refine jD 1 fun _ Y=>?_;simp(disch:=omega)[gK,dY,iG,dW,cG,ha,hb,hos];apply Y;refine dR fun _ Y=>?_;simp(disch:=omega)[gK,dY,iG,dW,cG,ha,hb,hos];refine To (fun _=>(Qq frm _ (by omega))) ?_;apply Y;refine jD 1 fun _ Y=>?_;simp(disch:=omega)[gK,dY,iG,dW,cG,ha,hb,hos];apply Y;refine dR fun _ Y=>?_;simp(disch:=omega)[gK,dY,iG,dW,cG,ha,hb,hos];refine To (fun _=>(Qq to _ (by omega))) ?_;apply Y;simp(disch:=omega)[gK,dY,iG,dW,cG,ha,hb,hos];apply Z;refine zd qWv43 [.op {},.pure,.op {rO:=true},.pure,.op {rL:=true,wL:=true},.op {rL:=true,wL:=true},.op {}] fun all hall _ Z=>?_;refine jD 1 fun _ Y=>?_;simp(disch:=omega)[gK,dY,iG,dW,cG,ha,hb,hos];apply Y;refine dR fun _ Y=>?_;simp(disch:=omega)[gK,dY,iG,dW,cG,ha,hb,hos];refine To (fun _=>(wI a _ (by omega))) ?_;apply Y;refine jD 1 fun _ Y=>?_;simp(disch:=omega)[gK,dY,iG,dW,cG,ha,hb,hos];apply Y;refine dR fun _ Y=>?_;simp(disch:=omega)[gK,dY,iG,dW,cG,ha,hb,hos];refine To (fun _=>(wI b _ (by omega))) ?_;apply Y;simp(disch:=omega)[gK,dY,iG,dW,cG,ha,hb,hos];apply Z;refine uF 6 rfl ?_;refine yQ 5 0 rfl rfl ?_;simp only [List.append_assoc,List.cons_append,List.nil_append];refine tG (σ.length+2) 0 (by simp [gK];rfl) rfl ?_;simp only [iG,List.set_cons_succ,List.set_cons_zero,List.append_assoc,List.cons_append,List.nil_append,List.length_append,List.length_cons,List.length_nil,Nat.reduceAdd];refine zk [0,3,4,5,6] ?_;refine zr qWv43 fun _ _ Z=>?_;simp(disch:=omega)[gK,dY,iG,dW,cG,ha,hb,hos];and_intros<;>(try omega);apply Z;refine zr qWv43 fun _ _ Z=>?_;simp(disch:=omega)[gK,dY,iG,dW,cG,ha,hb,hos];and_intros<;>(try omega);apply Z;apply aC;refine tM (σ.length+5) 0 1 (by simp [gK];rfl) rfl ?_;simp only [iG,List.set_cons_succ,List.set_cons_zero];refine zr qWv43 fun _ _ Z=>?_;simp(disch:=omega)[gK,dY,iG,dW,cG,ha,hb,hos];and_intros<;>(try omega);apply Z;apply aG;refine zk [3,4,5,6,7,8,24,25,26] ?_;refine jR (fun(k:Nat)=> [(26,.d (.int k)),(6,.d (.mp (σ.length+1) (.int .i64) (bF b).length (rT (xK b) (bF b)))),(10,.d (.any))]) (fun(k:Nat)=> [[]]) (fun(k:Nat)=>σ++ [[.sl true (b.map D.int)], [], [.mp (σ.length+3) (.int .i64) (bF a).length (rT (xK a) (bF a))], [], [.sl true ((fC (a.take k) b).map Un)], [.xs 1 (((a.take k).filter fun x=>decide (x∈b)).map D.int)]]) [6,10,26,27,28,29,30,31,32,33,34,35,36,37,38,39,40,41,42,43] (fun(k:Nat)=>k≤a.length) (fun(k:Nat)=>a.length - k) (0) (by simp <;> rfl) ?_ (by simp) (by simp [fC]) ?_ ?_
 ·simp
 ·simp
 rintro k hk;simp only [List.cons_append,List.nil_append];have hfl:=aAn a b k;have hdl:=Ti a b k;refine zr qWv43 fun _ _ Z=>?_;simp(disch:=omega)[gK,dY,iG,dW,cG,ha,hb,hos];apply Z;apply aC;refine zi ?_;refine⟨fun c1=>?_,fun c1=>?_⟩
 ·try simp at c1
  apply aE;apply aA;apply aC;apply aG;refine zr qWv43 fun _ _ Z=>?_;simp(disch:=omega)[gK,dY,iG,dW,cG,ha,hb,hos];and_intros<;>(try omega);apply Z;refine zk [3,4,5,6,7,8,10,24,25,26] ?_;refine zr qWv43 fun _ _ Z=>?_;refine zs 3 fun _ Y=>?_;simp(disch:=omega)[gK,dY,iG,dW,cG,ha,hb,hos];refine⟨_,⟨oP _,Al b _⟩,?_⟩;and_intros<;>(try omega);apply Y;simp(disch:=omega)[gK,dY,iG,dW,cG,ha,hb,hos];apply Z;refine zi ?_;refine⟨fun c2=>?_,fun c2=>?_⟩
  ·try simp at c2
   have hmem:=vP.1 c2;have hfi:=aBv c1 hmem;have hdr:=aGb c1 hmem;refine fO 30 6 rfl rfl ?_;refine zk [3,4,5,6,7,8,10,24,25,26] ?_;refine zt qWv43 fun _ _ Z=>?_;simp(disch:=omega)[gK,dY,iG,dW,cG,ha,hb,hos];and_intros<;>(try omega);apply Z;apply aK;apply aA;refine zk [3,4,5,6,7,8,10,24,25,26] ?_;refine zt qWv43 fun _ _ Z=>?_;simp(disch:=omega)[gK,dY,iG,dW,cG,ha,hb,hos];and_intros<;>(try omega);apply Z;refine dU (k+1) ?_ ?_ (dD rfl ?_ (by simp) (by simp [hfi,hdr]))
   ·omega
   ·try dsimp only
    omega
   simp(disch:=omega)[gK,dY,iG,dW,cG,ha,hb,hos]
  try simp at c2
  have hmem:¬a[k]∈b:=fun h=>by have:=vP.2 h;omega
  have hfi:=aFf c1 hmem;have hdr:=Wh c1 hmem;refine fO 30 6 rfl rfl ?_;refine zk [3,4,5,6,7,8,10,24,25,26] ?_;refine zt qWv43 fun _ _ Z=>?_;simp(disch:=omega)[gK,dY,iG,dW,cG,ha,hb,hos];and_intros<;>(try omega);apply Z;apply aK;apply aA;refine zk [3,4,5,6,7,8,10,24,25,26] ?_;refine zt qWv43 fun _ _ Z=>?_;simp(disch:=omega)[gK,dY,iG,dW,cG,ha,hb,hos];and_intros<;>(try omega);apply Z;refine dU (k+1) ?_ ?_ (dD rfl ?_ (by simp) (by simp [hfi,hdr]))
  ·omega
  ·try dsimp only
   omega
  simp(disch:=omega)[gK,dY,iG,dW,cG,ha,hb,hos]
 try simp at c1
 obtain rfl:k=a.length:=by omega
 simp only [List.take_length];apply bC;apply bB;apply bD;apply aX;apply aA;refine zr qWv43 fun _ _ Z=>?_;refine zs 2 fun _ Y=>?_;simp(disch:=omega)[gK,dY,iG,dW,cG,ha,hb,hos];apply Y;refine aD fun _ Y=>?_;simp(disch:=omega)[gK,dY,iG,dW,cG,ha,hb,hos];refine cH (aFa a b (σ.length+2) (σ.length+3) (bF a).length _ (by simp [gK]) hbn (by omega)) ?_;apply Y;simp(disch:=omega)[gK,dY,iG,dW,cG,ha,hb,hos];apply Z;refine Yz ?_;refine yQ 11 1 rfl rfl ?_;simp only [List.append_assoc,List.cons_append,List.nil_append];refine tG (σ.length+6) 0 (by simp [gK];rfl) rfl ?_;simp only [iG,List.set_cons_succ,List.set_cons_zero,List.append_assoc,List.cons_append,List.nil_append,List.length_append,List.length_cons,List.length_nil,Nat.reduceAdd];refine zk [3,4,5,7,8,11] ?_;refine zt qWv43 fun _ _ Z=>?_;refine zs 1 fun _ Y=>?_;simp(disch:=omega)[gK,dY,iG,dW,cG,ha,hb,hos];apply Y;refine aD fun _ Y=>?_;simp(disch:=omega)[gK,dY,iG,dW,cG,ha,hb,hos];refine cH (Ks b _) ?_;apply Y;simp only [dV];apply Z;refine zks [48,3,5,7,8,11] ?_;refine Ud (Yu b) (fun k:Nat=>σ++ [[.sl true (b.map D.int)], [], [.mp (σ.length+3) (.int .i64) (bF a).length (rT (xK a) (bF a))], [], [.sl true (((fU a b os k).2).map Un)], [.xs 1 (((fU a b os k).1).map D.int)], [.mp (σ.length+7) (.int .i64) os.length (rT (fun _=>1) os)], []]) rfl (fun args w=>enters_of func211 (by kernel_rfl) rfl args w) (fun M bs lb hsz h=>aHf false b M bs lb (by simpa using hsz) h) (by repeat' (first | exact fun p hp=>absurd hp List.not_mem_nil | refine List.forall_mem_cons.2 ⟨⟨_,rfl,rfl⟩,?_⟩)) (Xk b) (by simp [fU]) (by decide) (by decide) (by simp) (fun k=>by simp) (fun k _=>aIu (aKh (by simp) (by simp) _ _ _ _ _ _ _ _ _)) ?_ ?_
 ·rintro lr k p hp;obtain⟨i,hi,hk,hik,rfl⟩:=aFe hp;dsimp only;obtain⟨s,hs⟩:∃s,fU a b os k=s:=⟨_,rfl⟩;have inv:=uD hbn hosm k (by omega);have hrl:=Aa (a:=a) (b:=b) (os:=os) k;have hnx:fU a b os (k+1)=uV a b os i (fU a b os k):=by rw [← hik];rfl
  rw [hs] at inv hrl hnx ⊢;rw [hnx];have hlen:=inv.len;have hgl:=Hu a s.1 b[i];refine zr qWv43 fun _ _ Z=>?_;simp(disch:=omega)[gK,dY,iG,dW,cG,ha,hb,hos];apply Z;refine zt qWv43 fun _ _ Z=>?_;simp(disch:=omega)[gK,dY,iG,dW,cG,ha,hb,hos];apply Z;refine⟨rfl,?_⟩;apply aG;apply aC;refine zr qWv43 fun _ _ Z=>?_;refine zs 3 fun _ Y=>?_;simp(disch:=omega)[gK,dY,iG,dW,cG,ha,hb,hos];refine⟨σ.length+6,0,_,_,D.int (if b[i]∈os then 1 else 0),⟨⟨_,(by simp [gK];rfl),rfl⟩,oP _,Bn (fun _=>1) _ _⟩,?_⟩;and_intros<;>(try omega);apply Y;simp(disch:=omega)[gK,dY,iG,dW,cG,ha,hb,hos];apply Z;refine zi ?_;refine⟨fun c3=>?_,fun c3=>?_⟩
  ·try simp at c3
   have c3:b[i]∈os:=Classical.byContradiction fun h=>by rw [if_neg h] at c3;omega
   apply bC;apply bB;apply aX;refine⟨rfl,rfl,?_⟩;exact⟨[],by simp [sQ hi c3]⟩
  try simp at c3
  have c3:¬b[i]∈os:=fun h=>by rw [if_pos h] at c3;omega
  have hps:=Ow hbn hk inv hik hi c3;apply aE;apply aA;refine zk [3,5,7,8,12,13] ?_;refine zr qWv43 fun _ _ Z=>?_;simp(disch:=omega)[gK,dY,iG,dW,cG,ha,hb,hos];apply Z;apply aC;refine zr qWv43 fun _ _ Z=>?_;refine zs 3 fun _ Y=>?_;simp(disch:=omega)[gK,dY,iG,dW,cG,ha,hb,hos];refine⟨σ.length+2,0,_,_,D.int (at_ a b[i]),⟨⟨_,(by simp [gK];rfl),rfl⟩,oP _,Al a _⟩,?_⟩;and_intros<;>(try omega);apply Y;simp(disch:=omega)[gK,dY,iG,dW,cG,ha,hb,hos];apply Z;refine zi ?_;refine⟨fun c4=>?_,fun c4=>?_⟩
  ·try simp at c4
   have hka:=vP.1 c4;have hgn:uT s.1 b[i]=dJ a s.1 b[i]:=by unfold dJ;rw [if_pos hka]
   refine zr qWv43 fun _ _ Z=>?_;simp(disch:=omega)[gK,dY,iG,dW,cG,ha,hb,hos];apply Z;refine zk [3,7,8,12,13,14] ?_;refine zt qWv43 fun _ _ Z=>?_;refine zs 2 fun _ Y=>?_;simp(disch:=omega)[gK,dY,iG,dW,cG,ha,hb,hos];apply Y;refine aD fun _ Y=>?_;simp(disch:=omega)[gK,dY,iG,dW,cG,ha,hb,hos];refine cH (aEn s.1 b[i] _ (by omega)) ?_;apply Y;simp(disch:=omega)[gK,dY,iG,dW,cG,ha,hb,hos];apply Z;apply aA;rw [hgn];refine zr qWv43 fun _ _ Z=>?_;simp(disch:=omega)[gK,dY,iG,dW,cG,ha,hb,hos];and_intros<;>(try omega);apply Z;apply aC;refine zk [3,7,8,12,13,14,15] ?_;refine zr qWv43 fun _ _ Z=>?_;simp(disch:=omega)[gK,dY,iG,dW,cG,ha,hb,hos];and_intros<;>(try omega);apply Z;refine zi ?_;refine⟨fun c5=>?_,fun c5=>?_⟩
   ·try simp at c5
    refine kO (σ.length+5) 0 1 (es:=(dJ a s.1 b[i]).map D.int) (by simp [gK];rfl) rfl (by decide) fun cap rest hcap hcm hrest hes=>?_;simp only [List.length_map] at hcap hrest ⊢;rw [eO (f:=D.int) (fun _=>rfl)];simp only [iG,List.set_cons_succ,List.set_cons_zero,List.append_assoc,List.cons_append,List.nil_append,List.length_append,List.length_cons,List.length_nil,Nat.reduceAdd];refine zk [3,7,8,12,13,14,15] ?_;refine ze qWv43 [.op {rO:=true},.op {rO:=true},.op {},.op {},.op {},.op {},.read,.op {}] fun all hall _ Z=>?_;refine jD 6 fun _ Y=>?_;simp(disch:=omega)[gK,dY,iG,dW,cG,ha,hb,hos];and_intros<;>(try omega);apply Y;refine dR fun _ Y=>?_;simp(disch:=omega)[gK,dY,iG,dW,cG,ha,hb,hos];refine zdr (Df (σ.length+8) cap (dJ a s.1 b[i]) rest b[i+1] _ (by omega) (by simp [gK])) ?_;rw [hps.2.1 (by omega)];apply Y;simp(disch:=omega)[gK,dY,iG,dW,cG,ha,hb,hos];apply Z;apply aA;refine nE (σ.length+5) 0 1 (σ.length+8) (dJ a s.1 b[i]).length cap ((dJ a s.1 b[i]).map D.int) _ ((dJ a s.1 b[i]).map D.int++rest) (by simp [gK];rfl) rfl (by simp [gK]) (by omega) (by decide) (by simp [hrest];omega) (by simp) hes (by rw [eO (f:=D.int) (fun _=>rfl)];exact List.prefix_append _ _) ?_;simp only [iG,List.set_cons_succ,List.set_cons_zero,List.append_assoc,List.cons_append,List.nil_append,List.length_append,List.length_cons,List.length_nil,Nat.reduceAdd];refine zk [7,8,13,14,15] ?_;refine zr qWv43 fun _ _ Z=>?_;refine zs 3 fun _ Y=>?_;simp(disch:=omega)[gK,dY,iG,dW,cG,ha,hb,hos];apply Y;refine aD fun _ Y=>?_;simp(disch:=omega)[gK,dY,iG,dW,cG,ha,hb,hos];refine cH (yN (dJ a s.1 b[i]) (oO b (dJ a s.1 b[i]) i) b[i] _ (by omega) (by omega)) ?_;apply Y;simp(disch:=omega)[gK,dY,iG,dW,cG,ha,hb,hos];apply Z;refine zt qWv43 fun _ _ Z=>?_;simp(disch:=omega)[gK,dY,iG,dW,cG,ha,hb,hos];and_intros<;>(try omega);apply Z;apply aK;refine⟨rfl,rfl,?_⟩;exact⟨[[]],by simp [nD hi c3,hka]⟩
   try simp at c5
   apply aE;apply aA;rw [← hps.2.2 (by omega)];refine zk [7,8,13,14,15] ?_;refine zr qWv43 fun _ _ Z=>?_;refine zs 3 fun _ Y=>?_;simp(disch:=omega)[gK,dY,iG,dW,cG,ha,hb,hos];apply Y;refine aD fun _ Y=>?_;simp(disch:=omega)[gK,dY,iG,dW,cG,ha,hb,hos];refine cH (yN (dJ a s.1 b[i]) (oO b (dJ a s.1 b[i]) i) b[i] _ (by omega) (by omega)) ?_;apply Y;simp(disch:=omega)[gK,dY,iG,dW,cG,ha,hb,hos];apply Z;refine zt qWv43 fun _ _ Z=>?_;simp(disch:=omega)[gK,dY,iG,dW,cG,ha,hb,hos];and_intros<;>(try omega);apply Z;apply aK;refine⟨rfl,rfl,?_⟩;exact⟨[],by simp [nD hi c3,hka]⟩
  try simp at c4
  have hka:¬b[i]∈a:=fun h=>by have:=vP.2 h;omega
  have hgn:s.1=dJ a s.1 b[i]:=by unfold dJ;rw [if_neg hka]
  apply aE;apply aA;rw [hgn];refine zr qWv43 fun _ _ Z=>?_;simp(disch:=omega)[gK,dY,iG,dW,cG,ha,hb,hos];and_intros<;>(try omega);apply Z;apply aC;refine zk [3,7,8,12,13,14,15] ?_;refine zr qWv43 fun _ _ Z=>?_;simp(disch:=omega)[gK,dY,iG,dW,cG,ha,hb,hos];and_intros<;>(try omega);apply Z;refine zi ?_;refine⟨fun c6=>?_,fun c6=>?_⟩
  ·try simp at c6
   refine kO (σ.length+5) 0 1 (es:=(dJ a s.1 b[i]).map D.int) (by simp [gK];rfl) rfl (by decide) fun cap rest hcap hcm hrest hes=>?_;simp only [List.length_map] at hcap hrest ⊢;rw [eO (f:=D.int) (fun _=>rfl)];simp only [iG,List.set_cons_succ,List.set_cons_zero,List.append_assoc,List.cons_append,List.nil_append,List.length_append,List.length_cons,List.length_nil,Nat.reduceAdd];refine zk [3,7,8,12,13,14,15] ?_;refine ze qWv43 [.op {rO:=true},.op {rO:=true},.op {},.op {},.op {},.op {},.read,.op {}] fun all hall _ Z=>?_;refine jD 6 fun _ Y=>?_;simp(disch:=omega)[gK,dY,iG,dW,cG,ha,hb,hos];and_intros<;>(try omega);apply Y;refine dR fun _ Y=>?_;simp(disch:=omega)[gK,dY,iG,dW,cG,ha,hb,hos];refine zdr (Df (σ.length+8) cap (dJ a s.1 b[i]) rest b[i+1] _ (by omega) (by simp [gK])) ?_;rw [hps.2.1 (by omega)];apply Y;simp(disch:=omega)[gK,dY,iG,dW,cG,ha,hb,hos];apply Z;apply aA;refine nE (σ.length+5) 0 1 (σ.length+8) (dJ a s.1 b[i]).length cap ((dJ a s.1 b[i]).map D.int) _ ((dJ a s.1 b[i]).map D.int++rest) (by simp [gK];rfl) rfl (by simp [gK]) (by omega) (by decide) (by simp [hrest];omega) (by simp) hes (by rw [eO (f:=D.int) (fun _=>rfl)];exact List.prefix_append _ _) ?_;simp only [iG,List.set_cons_succ,List.set_cons_zero,List.append_assoc,List.cons_append,List.nil_append,List.length_append,List.length_cons,List.length_nil,Nat.reduceAdd];refine zk [7,8,13,14,15] ?_;refine zr qWv43 fun _ _ Z=>?_;refine zs 3 fun _ Y=>?_;simp(disch:=omega)[gK,dY,iG,dW,cG,ha,hb,hos];apply Y;refine aD fun _ Y=>?_;simp(disch:=omega)[gK,dY,iG,dW,cG,ha,hb,hos];refine cH (yN (dJ a s.1 b[i]) (oO b (dJ a s.1 b[i]) i) b[i] _ (by omega) (by omega)) ?_;apply Y;simp(disch:=omega)[gK,dY,iG,dW,cG,ha,hb,hos];apply Z;refine zt qWv43 fun _ _ Z=>?_;simp(disch:=omega)[gK,dY,iG,dW,cG,ha,hb,hos];and_intros<;>(try omega);apply Z;apply aK;refine⟨rfl,rfl,?_⟩;exact⟨[[]],by simp [nD hi c3,hka]⟩
  try simp at c6
  apply aE;apply aA;rw [← hps.2.2 (by omega)];refine zk [7,8,13,14,15] ?_;refine zr qWv43 fun _ _ Z=>?_;refine zs 3 fun _ Y=>?_;simp(disch:=omega)[gK,dY,iG,dW,cG,ha,hb,hos];apply Y;refine aD fun _ Y=>?_;simp(disch:=omega)[gK,dY,iG,dW,cG,ha,hb,hos];refine cH (yN (dJ a s.1 b[i]) (oO b (dJ a s.1 b[i]) i) b[i] _ (by omega) (by omega)) ?_;apply Y;simp(disch:=omega)[gK,dY,iG,dW,cG,ha,hb,hos];apply Z;refine zt qWv43 fun _ _ Z=>?_;simp(disch:=omega)[gK,dY,iG,dW,cG,ha,hb,hos];and_intros<;>(try omega);apply Z;apply aK;refine⟨rfl,rfl,?_⟩;exact⟨[],by simp [nD hi c3,hka]⟩
 intro D0;rw [aGn];refine zr qWv43 fun _ _ Z=>?_;simp(disch:=omega)[gK,dY,iG,dW,cG,ha,hb,hos];apply Z;apply aB;refine⟨rfl,?_⟩;simp [aL,eJ,ha,hb,hos]
theorem Zr(frm to:List Int)(σ:List (List D))(hf:frm.length≤10000)(ht:to.length≤10000):Ct prog 62 [.sl false (frm.map D.int),.sl false (to.map D.int)] σ (fun r σ'=>r= .sl true ((eJ frm to).map Un)∧σ'=σ):=
 xB (So frm to σ hf ht) fun r hr=>by rw [hr];exact aGv _ _
end Go.Proofs.YtbgfljpnhhdkoaaGreat
