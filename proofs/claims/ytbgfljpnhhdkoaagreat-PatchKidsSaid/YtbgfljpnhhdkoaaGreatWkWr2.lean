import Derived.Test.YtbgfljpnhhdkoaaGreatWkWv4
open Go.Proofs.Tryz
set_option linter.all false
namespace Go.Proofs.YtbgfljpnhhdkoaaGreat.Lis
set_option maxHeartbeats 1000000
def up1(l:List Int):List Int:=l.map (· +1)
theorem Gi(l:List Int):(up1 l).length=l.length:=by simp [up1]
theorem vH {l:List Int} {i:Nat} (h:i<l.length):at0 (up1 l) i=at0 l i+1:=by
 rw [gH (by rw [Gi];exact h),gH h];simp [up1]
theorem Rg {l:List Int} {i:Nat} (hi:i<l.length)(L:List Nat):∀k,k≤i→lenK (up1 l) L i k=lenK l L i k
 | 0,_=>rfl
 | k+1,h=>by
  have ih:=Rg hi L k (by omega);have e:(at0 (up1 l) k<at0 (up1 l) i)↔(at0 l k<at0 l i):=by rw [vH (by omega),vH hi];omega
  simp only [lenK,ih,e]
theorem Rh {l:List Int} :∀n,n≤l.length→lens (up1 l) n=lens l n
 | 0,_=>rfl
 | n+1,h=>by
  have ih:=Rh (l:=l) n (by omega);simp only [lens,ih,Rg (show n<l.length by omega) _ n (Nat.le_refl _)]
theorem Hx {l:List Int} {i:Nat} (h:i<l.length):lenAt (up1 l) i=lenAt l i:=by
 unfold lenAt;rw [Rh _ (by omega)]
theorem Rj {l:List Int} (n behind:Nat)(hb:behind≤l.length):∀k,k≤l.length→fB (up1 l) n behind k=fB l n behind k
 | 0,_=>rfl
 | k + 1, h => by
  have ih:=Rj n behind hb k (by omega);have e2:(behind=(up1 l).length∨at0 (up1 l) k<at0 (up1 l) behind)↔(behind=l.length∨at0 l k<at0 l behind):=by
   rw [Gi];by_cases q:behind=l.length
   ·simp [q]
   rw [vH (by omega),vH (by omega)];constructor <;> rintro(h | h) <;> first | exact .inl h | exact .inr (by omega)
  have e3:(∀b∈fB l n behind k,at0 (up1 l) k<at0 (up1 l) b)↔(∀b∈fB l n behind k,at0 l k<at0 l b):=by
   refine forall_congr' fun b=>?_;refine imp_congr_right fun hb'=>?_;have:=((iB l n behind k).1 b hb').1;rw [vH (by omega),vH (by omega)];omega
  simp only [fB,ih,Hx (show k<l.length by omega),e2,e3]
theorem Qy {l:List Int} {n behind k:Nat} :(fB l n behind k).getD 0≤k:=by
 cases h:fB l n behind k with
 | none=>exact Nat.zero_le _
 | some j=>exact Nat.le_of_lt ((iB l n behind k).1 j h).1
theorem Pk {l:List Int} :∀n behind,behind≤l.length→uB (up1 l) n behind=uB l n behind
 | 0,_,_=>rfl
 | n+1,behind,h=>by
  simp only [uB,Rj (n+1) behind h behind h];rw [Pk n _ (Nat.le_trans Qy h)]
theorem Yp {l:List Int} :∀k,k≤l.length→maxK (up1 l) k=maxK l k
 | 0,_=>rfl
 | k+1,h=>by
  have ih:=Yp (l:=l) k (by omega);have e:=Hx (l:=l) (i:=k) (by omega);simp only [maxK,ih,e]
theorem ofR_up(l:List Int):ofR (up1 l)=ofR l:=by
 unfold ofR;rw [Gi,Yp _ (Nat.le_refl _),Pk _ _ (Nat.le_refl _)]
theorem aFc(l:List Int) {k n:Nat} (h:k<n):((lens l n)[k]?.getD 0)=lenAt l k:=by
 have:=mL l n k h
 rwa [List.getD_eq_getElem?_getD] at this
theorem lens_el(l:List Int) {k n:Nat} (h:k<(lens l n).length):(lens l n)[k]=lenAt l k:=by
 have:=aFc l (k:=k) (n:=n) (by rwa [lens_len] at h)
 rwa [List.getElem?_eq_getElem h] at this
theorem lenK_le(l:List Int)(i:Nat):∀k,k≤i→lenK l (lens l i) i k≤i+1
 | 0,_=>by simp [lenK]
 | k + 1, h => by
  have ih:=lenK_le l i k (by omega);unfold lenK;split
  ·have:∀j,lenAt l j≤j+1:=fun j=>by
    induction j using Nat.strongRecOn with
    | _ j ihj =>
     rw [Au];have:∀m,m≤j→lenK l (lens l j) j m≤j+1:=by
      intro m;induction m with
      | zero=>intro _;simp [lenK]
      | succ m ihm=>
       intro hm;have:=ihm (by omega);unfold lenK;split
       ·rw [mL l j m (by omega)];have:=ihj m (by omega);omega
       exact this
     exact this j (Nat.le_refl _)
   rw [mL l i k (by omega)];have:=this k;omega
  exact ih
theorem lenAt_le(l:List Int)(j:Nat):lenAt l j≤j+1:=by rw [Au];exact lenK_le l j j (Nat.le_refl _)
theorem lenK_yes {l:List Int} {i k:Nat} (hi:i<l.length)(hk:k<i)(h1:l[k]<l[i])(h2:lenK l (lens l i) i k≤lenAt l k):lenK l (lens l i) i (k+1)=lenAt l k+1:=by
 rw [lenK,mL l i k hk,gH (by omega),gH hi,if_pos ⟨h1,h2⟩]
theorem lenK_no {l:List Int} {i k:Nat} (hi:i<l.length)(hk:k<i)(h:¬(l[k]<l[i]∧lenK l (lens l i) i k≤lenAt l k)):lenK l (lens l i) i (k+1)=lenK l (lens l i) i k:=by
 rw [lenK,mL l i k hk,gH (by omega),gH hi,if_neg h]
theorem lens_next(l:List Int)(i:Nat):lens l (i+1)=lens l i++ [lenK l (lens l i) i i]:=rfl
theorem max_le(l:List Int):∀k,maxK l k≤k
 | 0=>Nat.le_refl _
 | k+1=>by have:=max_le l k;have:=lenAt_le l k;simp only [maxK];omega
def bst(l:List Int)(n behind k:Nat):Int:=match fB l n behind k with | some j=>(j:Nat) | none=> -1
theorem bst_zero(l:List Int)(n behind:Nat):bst l n behind 0= -1:=rfl
theorem bst_lt(l:List Int)(n behind k:Nat): -1≤bst l n behind k∧bst l n behind k<k:=by
 unfold bst;split
 ·rename_i j h;have:=((iB l n behind k).1 j h).1;omega
 omega
theorem bst_yes {l:List Int} {n behind k:Nat} (hk:k<l.length)(h1:lenAt l k=n)(h2:behind=l.length∨∃h:behind<l.length,l[k]<l[behind])(h3:bst l n behind k<0∨∃j:Nat,bst l n behind k=j∧∃h:j<l.length,l[k]<l[j]):bst l n behind (k+1)=k:=by
 unfold bst;rw [fB,if_pos];refine⟨h1,?_,fun b hb=>?_⟩
 ·rcases h2 with h | ⟨h,h'⟩
  ·exact .inl h
  exact .inr (by rw [gH hk,gH h];exact h')
 unfold bst at h3;have hb':fB l n behind k=some b:=hb;rw [hb'] at h3;rcases h3 with h | ⟨j,h,h',h''⟩
 ·simp at h;omega
 simp at h;obtain rfl:b=j:=by omega
 rw [gH hk,gH h'];exact h''
theorem bst_no {l:List Int} {n behind k:Nat} (hk:k<l.length)(hb:behind≤l.length)(h:¬lenAt l k=n∨(∃h:behind<l.length,¬l[k]<l[behind])∨∃j:Nat,bst l n behind k=j∧∃h:j<l.length,¬l[k]<l[j]):bst l n behind (k+1)=bst l n behind k:=by
 unfold bst;rw [fB,if_neg];rintro⟨q1,q2,q3⟩;rcases h with h | ⟨h,h'⟩ | ⟨j,h,h',h''⟩
 ·exact h q1
 ·rcases q2 with q | q
  ·omega
  rw [gH hk,gH h] at q;exact h' q
 unfold bst at h;cases hq:fB l n behind k with
 | none=>rw [hq] at h;have h:(-1:Int)=j:=h;omega
 | some b=>
  rw [hq] at h;simp at h;obtain rfl:b=j:=by omega
  have:=q3 b hq;rw [gH hk,gH h'] at this;exact h'' this
def beh(l:List Int):Nat→Nat
 | 0=>l.length
 | k+1=>(fB l (maxK l l.length - k) (beh l k) (beh l k)).getD 0
def rowR(l:List Int):Nat→List Nat
 | 0=> []
 | k+1=>beh l (k+1)::rowR l k
theorem beh_le(l:List Int):∀k,beh l k≤l.length
 | 0=>Nat.le_refl _
 | k+1=>Nat.le_trans Qy (beh_le l k)
theorem rowR_len(l:List Int):∀k,(rowR l k).length=k
 | 0=>rfl
 | k+1=>by rw [rowR,List.length_cons,rowR_len l k]
theorem Ld(l:List Int):∀(d k:Nat),k+d=maxK l l.length→(uB l d (beh l k)).reverse++rowR l k=rowR l (k+d)
 | 0,k,_=>by simp [uB]
 | d+1,k,h=>by
  have ih:=Ld l d (k+1) (by omega);rw [show k+(d+1)=k+1+d by omega,← ih];rw [uB,show d+1=maxK l l.length - k by omega];show(((fB l (maxK l l.length - k) (beh l k) (beh l k)).getD 0)::uB l d ((fB l (maxK l l.length - k) (beh l k) (beh l k)).getD 0)).reverse++rowR l k=_
  rw [List.reverse_cons,List.append_assoc];rfl
theorem ofR_row(l:List Int):ofR l=rowR l (maxK l l.length):=by
 have:=Ld l (maxK l l.length) 0 (by omega);simpa [ofR,rowR,beh] using this
theorem Bk(l:List Int):∀k,k<maxK l l.length→∃j,fB l (maxK l l.length - k) (beh l k) (beh l k)=some j∧lenAt l j=maxK l l.length - k∧j<l.length
 | 0, h => by
  cases hq:fB l (maxK l l.length - 0) (beh l 0) (beh l 0)with
  | some j=>
   have:=(iB l _ _ _).1 j hq;exact⟨j,rfl,this.2.1,this.1⟩
  | none=>
   have hn:=(iB l _ _ _).2 hq;rcases(Bx l l.length).2 with e | ⟨j,h1,h2⟩
   ·omega
   exact absurd ⟨by omega,.inl rfl⟩ (hn j h1)
 | k + 1, h => by
  obtain⟨i,i1,i2,i3⟩:=Bk l k (by omega);have hb:beh l (k+1)=i:=by show(fB l _ _ _).getD 0=i;rw [i1];rfl
  rw [hb];cases hq:fB l (maxK l l.length - (k+1)) i i with
  | some j=>
   have:=(iB l _ _ _).1 j hq;exact⟨j,rfl,this.2.1,by omega⟩
  | none=>
   have hn:=(iB l _ _ _).2 hq;obtain⟨j,j1,j2,j3⟩:=aEx l i (by omega);exact absurd ⟨by omega,.inr j2⟩ (hn j j1)
theorem bst_beh {l:List Int} {k:Nat} (h:k<maxK l l.length):bst l (maxK l l.length - k) (beh l k) (beh l k)=beh l (k+1):=by
 obtain⟨j,j1,j2,j3⟩:=Bk l k h;unfold bst;show _=(((fB l _ _ _).getD 0:Nat):Int)
 rw [j1];rfl
theorem aH4 {l:List Int} {k:Nat} (h:k<maxK l l.length):beh l (k+1)<l.length:=by
 obtain⟨j,j1,j2,j3⟩:=Bk l k h;show(fB l _ _ _).getD 0<_
 rw [j1];exact j3
theorem beh_pos {l:List Int} :∀k,k≤maxK l l.length→(beh l k=l.length↔k=0)
 | 0,_=>by simp [beh]
 | k+1,h=>by have:=aH4 (l:=l) (k:=k) (by omega);omega
end Go.Proofs.YtbgfljpnhhdkoaaGreat.Lis
namespace Go.Proofs.YtbgfljpnhhdkoaaGreat
open Go Go.Vm
def kJ(a b:List Int):List Int:=(eB a b).map fun x=>pM x a
theorem aDm(a b:List Int):fJ a b=Lis.up1 (kJ a b):=by
 unfold fJ kJ Lis.up1;rw [List.map_map];refine List.map_congr_left fun x hx=>?_;show at_ a x=pM x a+1
 have:x∈a:=by
  unfold eB at hx;simpa using(List.mem_filter.1 hx).2
 unfold at_ xD;rw [if_pos this]
theorem vB {a b:List Int} (hb:b.Nodup):Lis.ofP (fJ a b)=Lis.ofR (kJ a b):=by
 rw [Lis.ofP_ofR _ (Eo hb),aDm,Lis.ofR_up]
theorem Dn(a b:List Int):(kJ a b).length=(eB a b).length:=by simp [kJ]
theorem Sl {a b:List Int} {k:Nat} (hk:k<b.length)(h:b[k]∈a):kJ a (b.take (k+1))=kJ a (b.take k)++ [pM b[k] a]:=by simp [kJ,rB hk h]
theorem Yb {a b:List Int} {k:Nat} (hk:k<b.length)(h:¬b[k]∈a):kJ a (b.take (k+1))=kJ a (b.take k):=by simp [kJ,uS hk h]
theorem jG {l:List Int} {x:Int} :pM x l<0↔x∉l:=by
 constructor
 ·intro h hx;obtain⟨k,hk,h1,_⟩:=nX hx;omega
 intro h;rw [Xa h];omega
set_option maxRecDepth 20000
set_option maxHeartbeats 8000000
theorem nF(l:List Int)(x:Int)(σ:List (List D))(hl:l.length≤1000000):Ct prog 157 [.sl false (l.map D.int),D.int x] σ (fun r σ'=>r= .int (pM x l)∧σ'=σ):=by
 refine zf (rs:=[.tmp 4]) func157 ntmps157 results157 ?_;simp only [aN];refine aW fun _ _ Z=>?_;simp(disch:=omega);apply Z;apply aB;refine aW fun _ _ Z=>?_;simp(disch:=omega);and_intros<;>(try omega);apply Z;apply aF;refine zk [1,4,7,8,9] ?_;refine bA (fun(k:Nat)=> [(9,.d (.v (.int .i64 (k:Int)))),(5,.d (.any)),(6,.d (.any))]) [4,5,6,9,10,11,12,13,14,15,16,17,18] (fun(k:Nat)=>k≤l.length∧∀y∈l.take k,decide (y=x)=false) (fun(k:Nat)=>l.length - k) (0) (by simp <;> rfl) ?_ ?_ ?_
 ·simp
 ·simp
 rintro k ⟨hk,hh⟩;simp only [List.cons_append,List.nil_append];refine aW fun _ _ Z=>?_;simp(disch:=omega);apply Z;apply aB;refine zi ?_;refine⟨fun c1=>?_,fun c1=>?_⟩
 ·try simp at c1
  apply aD;apply aA;apply aB;apply aF;refine aW fun _ _ Z=>?_;simp(disch:=omega);and_intros<;>(try omega);apply Z;refine zk [1,5,6,7,8,9] ?_;refine aW fun _ _ Z=>?_;simp(disch:=omega);apply Z;refine zi ?_;refine⟨fun c2=>?_,fun c2=>?_⟩
  ·try simp at c2
   refine aW fun _ _ Z=>?_;simp(disch:=omega);apply Z;apply aC;apply aP;apply aI;apply dF;apply aP;apply aI;simp [aK];exact(nI c1 hh (by simpa using c2)).symm
  try simp at c2
  apply aD;apply aH;apply aA;refine pP fun _ _ Z=>?_;simp(disch:=omega);and_intros<;>(try omega);apply Z;refine zq (k+1) ?_ ?_ ?_
  ·exact⟨by omega,kH (by omega) hh (by simpa using c2)⟩
  ·try dsimp only
   omega
  simp(disch:=omega)
 try simp at c1
 apply aY;apply aX;apply aZ;apply aR;apply aA;refine aW fun _ _ Z=>?_;simp(disch:=omega);apply Z;apply aC;simp [aK];rw [List.take_of_length_le (by omega)] at hh;exact(jY hh).symm
@[simp] abbrev qWr21:Cfg:=⟨[2,3,17,22],[],[],[],[]⟩
theorem Ee(l:List Int)(σ:List (List D))(hl:l.length≤1000000):Ct prog 156 [.sl false (l.map D.int)] σ (fun r σ'=>r= .sl true ((bI l).map D.int)∧σ'=σ):=by
 refine zf (rs:=[.tmp 2]) func156 ntmps156 results156 ?_;simp only [aN];refine zr qWr21 fun _ _ Z=>?_;simp(disch:=omega);apply Z;refine zr qWr21 fun _ _ Z=>?_;simp(disch:=omega);and_intros<;>(try omega);apply Z;apply aB;refine zr qWr21 fun _ _ Z=>?_;simp(disch:=omega);and_intros<;>(try omega);apply Z;apply aF;refine zk [2,3,7,8,9] ?_;refine bA (fun(k:Nat)=> [(9,.d (.v (.int .i64 (k:Int)))),(3,.d (.sl true ((bI (l.take k)).map D.int))),(5,.d (.any))]) [3,5,9,10,11,12,13,14,15,16,17,18,19,20,21] (fun(k:Nat)=>k≤l.length) (fun(k:Nat)=>l.length - k) (0) (by simp <;> rfl) ?_ ?_ ?_
 ·simp [bI]
 ·simp
 rintro k hk;simp only [List.cons_append,List.nil_append];have hot:=Ql l k;refine zr qWr21 fun _ _ Z=>?_;simp(disch:=omega);apply Z;apply aB;refine zi ?_;refine⟨fun c1=>?_,fun c1=>?_⟩
 ·try simp at c1
  apply aD;apply aA;apply aB;apply aF;refine zr qWr21 fun _ _ Z=>?_;simp(disch:=omega);and_intros<;>(try omega);apply Z;refine zr qWr21 fun _ _ Z=>?_;refine zs 2 fun _ Y=>?_;simp(disch:=omega);apply Y;refine aE fun _ Y=>?_;simp(disch:=omega);refine bX (nF (bI (l.take k)) l[k] _ (by omega)) ?_;apply Y;simp(disch:=omega);apply Z;refine zi ?_;refine⟨fun c2=>?_,fun c2=>?_⟩
  ·try simp at c2
   have hon:bI (l.take (k+1))=bI (l.take k)++ [l[k]]:=by rw [uW c1];unfold lW;rw [if_neg (jG.1 c2)]
   refine zk [2,3,5,7,8,9] ?_;refine zt qWr21 fun _ _ Z=>?_;simp(disch:=omega);and_intros<;>(try omega);apply Z;apply aH;apply aA;refine zt qWr21 fun _ _ Z=>?_;simp(disch:=omega);and_intros<;>(try omega);apply Z;refine zq (k+1) ?_ ?_ ?_
   ·omega
   ·try dsimp only
    omega
   simp(disch:=omega)[hon]
  try simp at c2
  have hon:bI (l.take (k+1))=bI (l.take k):=by rw [uW c1];unfold lW;rw [if_pos (Classical.byContradiction fun h=>by have:=jG.2 h;omega)]
  apply aD;apply aH;apply aA;refine zk [2,3,5,7,8,9] ?_;refine zt qWr21 fun _ _ Z=>?_;simp(disch:=omega);and_intros<;>(try omega);apply Z;refine zq (k+1) ?_ ?_ ?_
  ·omega
  ·try dsimp only
   omega
  simp(disch:=omega)[hon]
 try simp at c1
 apply aY;apply aX;apply aZ;apply aR;apply aA;refine zr qWr21 fun _ _ Z=>?_;simp(disch:=omega);apply Z;apply aC;simp [aK];rw [List.take_of_length_le (by omega)]
@[simp] abbrev qWr22:Cfg:=⟨[4,5,18,23],[],[],[],[]⟩
theorem Gl(l:List Int)(x:Int)(σ:List (List D))(hl:l.length≤1000000):Ct prog 159 [.sl false (l.map D.int),D.int x] σ (fun r σ'=>r= .sl true ((eG l x).map D.int)∧σ'=σ):=by
 refine zf (rs:=[.tmp 4]) func159 ntmps159 results159 ?_;simp only [aN];refine zr qWr22 fun _ _ Z=>?_;simp(disch:=omega);apply Z;refine zr qWr22 fun _ _ Z=>?_;simp(disch:=omega);and_intros<;>(try omega);apply Z;apply aB;refine zr qWr22 fun _ _ Z=>?_;simp(disch:=omega);and_intros<;>(try omega);apply Z;apply aF;refine zk [1,4,5,9,10,11] ?_;refine bA (fun(k:Nat)=> [(11,.d (.v (.int .i64 (k:Int)))),(5,.d (.sl true ((eG (l.take k) x).map D.int))),(7,.d (.any))]) [5,7,11,12,13,14,15,16,17,18,19,20,21,22] (fun(k:Nat)=>k≤l.length) (fun(k:Nat)=>l.length - k) (0) (by simp <;> rfl) ?_ ?_ ?_
 ·simp [eG]
 ·simp
 rintro k hk;simp only [List.cons_append,List.nil_append];have hdl:=Kp (l.take k) x;simp only [List.length_take] at hdl;have hdl2:(eG (l.take k) x).length≤k:=by unfold eG;omega
 refine zr qWr22 fun _ _ Z=>?_;simp(disch:=omega);apply Z;apply aB;refine zi ?_;refine⟨fun c1=>?_,fun c1=>?_⟩
 ·try simp at c1
  apply aD;apply aA;apply aB;apply aF;refine zr qWr22 fun _ _ Z=>?_;simp(disch:=omega);and_intros<;>(try omega);apply Z;refine zr qWr22 fun _ _ Z=>?_;simp(disch:=omega);apply Z;refine zi ?_;refine⟨fun c2=>?_,fun c2=>?_⟩
  ·try simp at c2
   refine zk [1,4,5,7,9,10,11] ?_;refine zt qWr22 fun _ _ Z=>?_;simp(disch:=omega);and_intros<;>(try omega);apply Z;apply aH;apply aA;refine zk [1,4,5,7,9,10,11] ?_;refine zt qWr22 fun _ _ Z=>?_;simp(disch:=omega);and_intros<;>(try omega);apply Z;refine zq (k+1) ?_ ?_ ?_
   ·omega
   ·try dsimp only
    omega
   simp(disch:=omega)[rQ, *]
  try simp at c2
  apply aD;apply aH;apply aA;refine zk [1,4,5,7,9,10,11] ?_;refine zt qWr22 fun _ _ Z=>?_;simp(disch:=omega);and_intros<;>(try omega);apply Z;refine zq (k+1) ?_ ?_ ?_
  ·omega
  ·try dsimp only
   omega
  simp(disch:=omega)[rQ, *]
 try simp at c1
 apply aY;apply aX;apply aZ;apply aR;apply aA;refine zr qWr22 fun _ _ Z=>?_;simp(disch:=omega);apply Z;apply aC;simp [aK];rw [List.take_of_length_le (by omega)]
@[simp] abbrev qWr23:Cfg:=⟨[6,7,13,17],[],[],[],[]⟩
theorem uA(l:List Int)(i:Nat)(x:Int)(σ:List (List D))(hl:l.length≤99999)(hi:i≤l.length):Ct prog 160 [.sl false (l.map D.int),D.int i,D.int x] σ (fun r σ'=>r= .sl true ((dE l i x).map D.int)∧σ'=σ):=by
 refine zf (rs:=[.tmp 6]) func160 ntmps160 results160 ?_;simp only [aN];have htl:List.take l.length (List.map D.int l)=List.map D.int l:=List.take_of_length_le (by simp);refine zr qWr23 fun _ _ Z=>?_;simp[pY,pR,or_imp,forall_and,htl];apply Z;refine zr qWr23 fun _ _ Z=>?_;simp[pY,pR,or_imp,forall_and,htl];and_intros<;>(try omega);apply Z;refine zr qWr23 fun _ _ Z=>?_;simp[pY,pR,or_imp,forall_and,htl];and_intros<;>(try omega);apply Z;refine zk [0,1,6,7] ?_;refine zr qWr23 fun _ _ Z=>?_;simp[pY,pR,or_imp,forall_and,htl];and_intros<;>(try omega);apply Z;apply aC;simp [aK,dE]
@[simp] abbrev qWr24:Cfg:=⟨[2,3,40,45],[],[],[],[]⟩
theorem Qa(l:List Int)(σ:List (List D))(hl:l.length≤1000000):Ct prog 214 [.sl false (l.map D.int)] σ (fun r σ'=>r= .sl true (dN (Lis.lens l l.length))∧σ'=σ):=by
 refine zf (rs:=[.tmp 2]) func214 ntmps214 results214 ?_;simp only [aN];refine zr qWr24 fun _ _ Z=>?_;simp(disch:=omega);apply Z;refine zr qWr24 fun _ _ Z=>?_;simp(disch:=omega);and_intros<;>(try omega);apply Z;apply aB;refine zr qWr24 fun _ _ Z=>?_;simp(disch:=omega);and_intros<;>(try omega);apply Z;apply aF;refine zk [0,2,3,9,10,11] ?_;refine bA (fun(k:Nat)=> [(11,.d (.v (.int .i64 (k:Int)))),(3,.d (.sl true (dN (Lis.lens l k)))),(4,.d (.any)),(5,.d (.any)),(6,.d (.any)),(7,.d (.any))]) [3,4,5,6,7,11,12,13,14,15,16,17,18,19,20,21,22,23,24,25,26,27,28,29,30,31,32,33,34,35,36,37,38,39,40,41,42,43,44] (fun(k:Nat)=>k≤l.length) (fun(k:Nat)=>l.length - k) (0) (by simp <;> rfl) ?_ ?_ ?_
 ·simp [Lis.lens]
 ·simp
 rintro k hk;simp only [List.cons_append,List.nil_append];have hll:=Lis.lens_len l k;refine zr qWr24 fun _ _ Z=>?_;simp(disch:=omega);apply Z;apply aB;refine zi ?_;refine⟨fun c1=>?_,fun c1=>?_⟩
 ·try simp at c1
  apply aD;apply aA;apply aB;apply aF;refine zr qWr24 fun _ _ Z=>?_;simp(disch:=omega);and_intros<;>(try omega);apply Z;refine zk [0,2,3,4,5,6,7,9,10,11] ?_;refine zr qWr24 fun _ _ Z=>?_;simp(disch:=omega);apply Z;apply aB;refine zr qWr24 fun _ _ Z=>?_;simp(disch:=omega);apply Z;apply aF;refine zk [0,2,3,4,5,6,7,9,10,11] ?_;refine bA (fun(j:Nat)=> [(7,.d (.v (.int .i64 (j:Int)))),(6,.d (.int ((Lis.lenK l (Lis.lens l k) k j:Nat):Int)))]) [6,7,16,17,18,19,20,21,22,23,24,25,26,27,28,29,30,31,32,33,34,35,36,37,38,39] (fun(j:Nat)=>j≤k) (fun(j:Nat)=>k - j) (0) (by simp <;> rfl) ?_ ?_ ?_
  ·simp [Lis.lenK]
  ·simp
  rintro j hj;simp only [List.cons_append,List.nil_append];have hjl:=Lis.lenK_le l k j hj;apply aB;refine zr qWr24 fun _ _ Z=>?_;simp(disch:=omega);apply Z;refine zi ?_;refine⟨fun c2=>?_,fun c2=>?_⟩
  ·try simp at c2
   have hel:=Lis.lens_el l (show j<(Lis.lens l k).length by omega);have hlb:=Lis.lenAt_le l j;apply aD;apply aA;apply aB;apply aF;refine zk [0,2,3,4,5,6,7,9,10,11] ?_;refine kX qWr24 fun all hall _ Z=>?_;have ga6:aO all 6=some 27:=hall 6;refine zs 7 fun _ Y=>?_;simp(disch:=omega)[ga6,hel];and_intros<;>(try omega);apply Y;refine aS 27 (by simp <;> rfl) ?_;refine⟨fun g3=>?_,fun g3=>?_⟩
   ·try simp at g3
    simp(disch:=omega)[ga6,hel];and_intros<;>(try omega);apply Z;refine zi ?_;refine⟨fun c4=>?_,fun c4=>?_⟩
    ·try simp at c4
     have hnx:(Lis.lenK l (Lis.lens l k) k (j+1))=Lis.lenAt l j+1:=Lis.lenK_yes c1 c2 g3 (by omega);refine zk [0,2,3,4,5,6,7,9,10,11] ?_;refine zt qWr24 fun _ _ Z=>?_;simp(disch:=omega)[hel];and_intros<;>(try omega);apply Z;apply aH;apply aA;refine zk [0,2,3,4,5,6,7,9,10,11] ?_;refine zt qWr24 fun _ _ Z=>?_;simp(disch:=omega)[hel];and_intros<;>(try omega);apply Z;refine zq (j+1) ?_ ?_ ?_
     ·omega
     ·try dsimp only
      omega
     simp(disch:=omega)[hnx,hel]
    try simp at c4
    have hnx:(Lis.lenK l (Lis.lens l k) k (j+1))=Lis.lenK l (Lis.lens l k) k j:=Lis.lenK_no c1 c2 (by omega);apply aD;apply aH;apply aA;refine zk [0,2,3,4,5,6,7,9,10,11] ?_;refine zt qWr24 fun _ _ Z=>?_;simp(disch:=omega)[hel];and_intros<;>(try omega);apply Z;refine zq (j+1) ?_ ?_ ?_
    ·omega
    ·try dsimp only
     omega
    simp(disch:=omega)[hnx,hel]
   try simp at g3
   have hnx:(Lis.lenK l (Lis.lens l k) k (j+1))=Lis.lenK l (Lis.lens l k) k j:=Lis.lenK_no c1 c2 (by omega);simp(disch:=omega)[ga6,hel];apply Z;refine bD (t:=false) (by simp) (fun h=>by cases h) (fun _=>?_);apply aD;apply aH;apply aA;refine zk [0,2,3,4,5,6,7,9,10,11] ?_;refine zt qWr24 fun _ _ Z=>?_;simp(disch:=omega)[hel];and_intros<;>(try omega);apply Z;refine zq (j+1) ?_ ?_ ?_
   ·omega
   ·try dsimp only
    omega
   simp(disch:=omega)[hnx,hel]
  try simp at c2
  obtain rfl:k=j:=by omega
  have hjk:=True.intro;apply aY;apply aX;apply aZ;apply aR;apply aA;refine zk [0,2,3,4,5,6,7,9,10,11] ?_;refine zt qWr24 fun _ _ Z=>?_;simp(disch:=omega);and_intros<;>(try omega);apply Z;apply aH;apply aA;refine zk [0,2,3,4,5,6,7,9,10,11] ?_;refine zt qWr24 fun _ _ Z=>?_;simp(disch:=omega);and_intros<;>(try omega);apply Z;refine zq (k+1) ?_ ?_ ?_
  ·omega
  ·try dsimp only
   omega
  simp(disch:=omega)[Lis.lens_next,hjk]
 try simp at c1
 apply aY;apply aX;apply aZ;apply aR;apply aA;refine zr qWr24 fun _ _ Z=>?_;simp(disch:=omega);apply Z;apply aC;simp [aK];obtain rfl:k=l.length:=by omega
 rfl
theorem aC3(l:List Int)(σ:List (List D))(hl:l.length≤1000000):Ct prog 215 [.sl false (l.map D.int)] σ (fun r σ'=>r= .int ((Lis.maxK l l.length:Nat):Int)∧σ'=σ):=by
 refine zf (rs:=[.tmp 2]) func215 ntmps215 results215 ?_;simp only [aN];have hll:=Lis.lens_len l l.length;refine aW fun _ _ Z=>?_;simp(disch:=omega)[hll];apply Z;refine aW fun _ _ Z=>?_;simp(disch:=omega)[hll];apply Z;apply aB;refine aW fun _ _ Z=>?_;refine zs 1 fun _ Y=>?_;simp(disch:=omega)[hll];apply Y;refine aE fun _ Y=>?_;simp(disch:=omega)[hll];refine bX (Qa l _ hl) ?_;apply Y;simp(disch:=omega)[hll];and_intros<;>(try omega);apply Z;apply aF;refine zk [2,3,7,8,9] ?_;refine bA (fun(k:Nat)=> [(9,.d (.v (.int .i64 (k:Int)))),(3,.d (.int ((Lis.maxK l k:Nat):Int))),(5,.d (.any))]) [3,5,9,10,11,12,13,14,15,16] (fun(k:Nat)=>k≤l.length) (fun(k:Nat)=>l.length - k) (0) (by simp <;> rfl) ?_ ?_ ?_
 ·simp [Lis.maxK]
 ·simp
 rintro k hk;simp only [List.cons_append,List.nil_append];have hel:=fun h=>Lis.lens_el l (k:=k) (n:=l.length) h;have hmx:((Lis.maxK l (k+1):Nat):Int)=max ((Lis.maxK l k:Nat):Int) (Lis.lenAt l k:Nat):=by simp only [Lis.maxK];omega
 refine aW fun _ _ Z=>?_;simp(disch:=omega)[hll];apply Z;apply aB;refine zi ?_;refine⟨fun c1=>?_,fun c1=>?_⟩
 ·try simp at c1
  have hel:=hel (by omega);apply aD;apply aA;apply aB;apply aF;refine aW fun _ _ Z=>?_;simp(disch:=omega)[hll,hel];and_intros<;>(try omega);apply Z;refine pP fun _ _ Z=>?_;simp(disch:=omega)[hll,hel];and_intros<;>(try omega);apply Z;apply aH;apply aA;refine zk [2,3,5,7,8,9] ?_;refine pP fun _ _ Z=>?_;simp(disch:=omega)[hll,hel];and_intros<;>(try omega);apply Z;refine zq (k+1) ?_ ?_ ?_
  ·omega
  ·try dsimp only
   omega
  simp(disch:=omega)[hll,hmx,hel]
 try simp at c1
 obtain rfl:k=l.length:=by omega
 apply aY;apply aX;apply aZ;apply aR;apply aA;refine aW fun _ _ Z=>?_;simp(disch:=omega)[hll];apply Z;apply aC;simp [aK]
set_option maxRecDepth 20000
set_option maxHeartbeats 8000000
@[simp] abbrev qWr25:Cfg:=⟨[2,4,71],[],[],[],[]⟩
theorem aEu(l:List Int)(σ:List (List D))(hl:l.length≤99999):Ct prog 158 [.sl false (l.map D.int)] σ (fun r σ'=>r= .sl true (dN (Lis.ofR l))∧σ'=σ):=by
 refine zf (rs:=[.tmp 2]) func158 ntmps158 results158 ?_;simp only [aN];have hll:=Lis.lens_len l l.length;have hml:=Lis.max_le l l.length;refine zr qWr25 fun _ _ Z=>?_;simp(disch:=first|omega|assumption);apply Z;refine zr qWr25 fun _ _ Z=>?_;refine zs 1 fun _ Y=>?_;simp(disch:=first|omega|assumption);apply Y;refine aE fun _ Y=>?_;simp(disch:=first|omega|assumption);refine bX (Qa l _ (by omega)) ?_;apply Y;simp(disch:=first|omega|assumption);apply Z;refine zr qWr25 fun _ _ Z=>?_;simp(disch:=first|omega|assumption);and_intros<;>try first|omega|exact rfl
 apply Z;refine zr qWr25 fun _ _ Z=>?_;simp(disch:=first|omega|assumption);and_intros<;>try first|omega|exact rfl
 apply Z;apply aB;refine zr qWr25 fun _ _ Z=>?_;refine zs 1 fun _ Y=>?_;simp(disch:=first|omega|assumption);apply Y;refine aE fun _ Y=>?_;simp(disch:=first|omega|assumption);refine bX (aC3 l _ (by omega)) ?_;apply Y;simp(disch:=first|omega|assumption);apply Z;apply aF;refine zk [0,2,3,4,5,6] ?_;refine bA (fun(k:Nat)=> [(6,.d (.int (((Lis.maxK l l.length:Nat):Int) - (k:Nat)))),(5,.d (.int ((Lis.beh l k:Nat):Int))),(4,.d (.sl true (dN (Lis.rowR l k)))),(7,.d (.any)),(8,.d (.any)),(9,.d (.any))]) [4,5,6,7,8,9,17,18,19,20,21,22,23,24,25,26,27,28,29,30,31,32,33,34,35,36,37,38,39,40,41,42,43,44,45,46,47,48,49,50,51,52,53,54,55,56,57,58,59,60,61,62,63,64,65,66,67,68,69,70] (fun(k:Nat)=>k≤Lis.maxK l l.length) (fun(k:Nat)=>Lis.maxK l l.length - k) (0) (by simp <;> rfl) ?_ ?_ ?_
 ·simp [Lis.rowR,Lis.beh]
 ·simp
 rintro k hk;simp only [List.cons_append,List.nil_append];have hm1:((Lis.maxK l l.length:Nat):Int) - k - 1=((Lis.maxK l l.length:Nat):Int) - (k+1):=by omega
 have hrl:=Lis.rowR_len l k;have hrw:Lis.rowR l (k+1)=Lis.beh l (k+1)::Lis.rowR l k:=rfl;have hbl:=Lis.beh_le l k;have hbp:=Lis.beh_pos (l:=l) k hk;apply aB;refine zr qWr25 fun _ _ Z=>?_;simp(disch:=first|omega|assumption);apply Z;refine zi ?_;refine⟨fun c1=>?_,fun c1=>?_⟩
 ·try simp at c1
  have hkm:k<Lis.maxK l l.length:=by omega
  apply aD;apply aA;apply aB;apply aF;refine zr qWr25 fun _ _ Z=>?_;simp(disch:=first|omega|assumption);apply Z;apply aB;refine zk [0,2,3,4,5,6,7,8,9] ?_;refine zr qWr25 fun _ _ Z=>?_;simp(disch:=first|omega|assumption);apply Z;apply aF;refine zk [0,2,3,4,5,6,7,8,9] ?_;refine bA (fun(i:Nat)=> [(8,.d (.v (.int .i64 (i:Int)))),(7,.d (.int (Lis.bst l (Lis.maxK l l.length - k) (Lis.beh l k) i))),(9,.d (.any))]) [7,8,9,21,22,23,24,25,26,27,28,29,30,31,32,33,34,35,36,37,38,39,40,41,42,43,44,45,46,47,48,49,50,51,52,53,54,55,56,57,58,59,60,61,62,63,64,65] (fun(i:Nat)=>i≤Lis.beh l k) (fun(i:Nat)=>Lis.beh l k - i) (0) (by simp <;> rfl) ?_ ?_ ?_
  ·simp [Lis.bst_zero]
  ·simp
  rintro i hi;simp only [List.cons_append,List.nil_append];have hbb:=Lis.bst_lt l (Lis.maxK l l.length - k) (Lis.beh l k) i;apply aB;refine zr qWr25 fun _ _ Z=>?_;simp(disch:=first|omega|assumption);apply Z;refine zi ?_;refine⟨fun c2=>?_,fun c2=>?_⟩
  ·try simp at c2
   have hel:=Lis.lens_el l (k:=i) (n:=l.length) (by omega);have hik:i<l.length:=by omega
   apply aD;apply aA;apply aB;apply aF;refine zk [0,2,3,4,5,6,7,8,9] ?_;refine zd qWr25 [.op {},.op {},.op {},.op {},.op {},.op {},.op {},.op {},.op {},.op {},.op {},.op {},.op {},.op {},.op {},.op {}] fun all hall _ Z=>?_;have ga4:aO all 4=some 30:=hall 4;refine eR 5 fun _ Y=>?_;simp(disch:=first|omega|assumption)[ga4,hel];and_intros<;>try first|omega|exact rfl
   apply Y;refine dU 30 (by simp <;> rfl) ?_;refine⟨fun g3=>?_,fun g3=>?_⟩
   ·try simp at g3
    refine eR 8 fun _ Y=>?_;simp(disch:=first|omega|assumption)[ga4,hel];and_intros<;>try first|omega|exact rfl
    apply Y;simp(disch:=first|omega|assumption)[ga4,hel];apply Z;refine zk [0,2,3,4,5,6,7,8,9] ?_;refine zd qWr25 [.op {},.op {},.op {},.op {},.op {},.op {},.op {},.op {},.op {},.op {},.op {},.op {},.op {},.op {},.op {},.op {},.op {},.op {},.op {},.op {},.op {},.op {},.op {},.op {}] fun all hall _ Z=>?_;have ga6:aO all 6=some 47:=hall 6;have ga9:aO all 9=some 50:=hall 9;have ga12:aO all 12=some 53:=hall 12;refine eR 7 fun _ Y=>?_;simp(disch:=first|omega|assumption)[ga6,ga9,ga12,hel];and_intros<;>try first|omega|exact rfl
    apply Y;refine dU 47 (by simp <;> rfl) ?_;refine⟨fun g4=>?_,fun g4=>?_⟩
    ·try simp at g4
     refine eR 3 fun _ Y=>?_;simp(disch:=first|omega|assumption)[ga6,ga9,ga12,hel];apply Y;refine eR 3 fun _ Y=>?_;simp(disch:=first|omega|assumption)[ga6,ga9,ga12,hel];apply Y;refine dU 53 (by simp <;> rfl) ?_;refine⟨fun g5=>?_,fun g5=>?_⟩
     ·try simp at g5
      have hbn:=Lis.bst_yes (l:=l) (n:=Lis.maxK l l.length - k) (behind:=Lis.beh l k) hik (by omega) (.inl (by omega)) (.inl (by omega));refine eR 8 fun _ Y=>?_;simp(disch:=first|omega|assumption)[ga6,ga9,ga12,hel];and_intros<;>try first|omega|exact rfl
      apply Y;simp(disch:=first|omega|assumption)[ga6,ga9,ga12,hel];apply Z;refine bD (t:=true) (by simp) (fun _=>?_) (fun h=>by cases h);refine zk [0,2,3,4,5,6,7,8,9] ?_;refine zt qWr25 fun _ _ Z=>?_;simp(disch:=first|omega|assumption)[hel];apply Z;apply aH;apply aA;refine zt qWr25 fun _ _ Z=>?_;simp(disch:=first|omega|assumption)[hel];and_intros<;>try first|omega|exact rfl
      apply Z;refine zq (i+1) ?_ ?_ ?_
      ·omega
      ·try dsimp only
       omega
      simp(disch:=first|omega|assumption)[hbn,hel]
     try simp at g5
     obtain⟨b,hb⟩:∃b:Nat,Lis.bst l (Lis.maxK l l.length - k) (Lis.beh l k) i=b:=⟨_,(Int.toNat_of_nonneg (by omega)).symm⟩;refine eR 8 fun _ Y=>?_;simp(disch:=first|omega|assumption)[ga6,ga9,ga12,hel,hb];and_intros<;>try first|omega|exact rfl
     apply Y;simp(disch:=first|omega|assumption)[ga6,ga9,ga12,hel,hb];apply Z;refine zi ?_;refine⟨fun c6=>?_,fun c6=>?_⟩
     ·try simp at c6
      have hbn:=Lis.bst_yes (l:=l) (n:=Lis.maxK l l.length - k) (behind:=Lis.beh l k) hik (by omega) (.inl (by omega)) (.inr ⟨b,hb,by omega,by omega⟩);refine zk [0,2,3,4,5,6,7,8,9] ?_;refine zt qWr25 fun _ _ Z=>?_;simp(disch:=first|omega|assumption)[hel,hb];apply Z;apply aH;apply aA;refine zt qWr25 fun _ _ Z=>?_;simp(disch:=first|omega|assumption)[hel,hb];and_intros<;>try first|omega|exact rfl
      apply Z;refine zq (i+1) ?_ ?_ ?_
      ·omega
      ·try dsimp only
       omega
      simp(disch:=first|omega|assumption)[hbn,hel,hb]
     try simp at c6
     have hbn:=Lis.bst_no (l:=l) (n:=Lis.maxK l l.length - k) (behind:=Lis.beh l k) hik hbl (.inr (.inr ⟨b,hb,by omega,by omega⟩));apply aD;apply aH;apply aA;refine zk [0,2,3,4,5,6,7,8,9] ?_;refine zt qWr25 fun _ _ Z=>?_;simp(disch:=first|omega|assumption)[hel,hb];and_intros<;>try first|omega|exact rfl
     apply Z;refine zq (i+1) ?_ ?_ ?_
     ·omega
     ·try dsimp only
      omega
     simp(disch:=first|omega|assumption)[hbn,hel,hb]
    try simp at g4
    have hbn:=Lis.bst_no (l:=l) (n:=Lis.maxK l l.length - k) (behind:=Lis.beh l k) hik hbl (.inl (by omega));refine eR 3 fun _ Y=>?_;simp(disch:=first|omega|assumption)[ga6,ga9,ga12,hel];apply Y;refine eR 8 fun _ Y=>?_;simp(disch:=first|omega|assumption)[ga6,ga9,ga12,hel];and_intros<;>try first|omega|exact rfl
    apply Y;simp(disch:=first|omega|assumption)[ga6,ga9,ga12,hel];apply Z;refine bD (t:=false) (by simp) (fun h=>by cases h) (fun _=>?_);apply aD;apply aH;apply aA;refine zk [0,2,3,4,5,6,7,8,9] ?_;refine zt qWr25 fun _ _ Z=>?_;simp(disch:=first|omega|assumption)[hel];and_intros<;>try first|omega|exact rfl
    apply Z;refine zq (i+1) ?_ ?_ ?_
    ·omega
    ·try dsimp only
     omega
    simp(disch:=first|omega|assumption)[hbn,hel]
   try simp at g3
   refine eR 8 fun _ Y=>?_;simp(disch:=first|omega|assumption)[ga4,hel];and_intros<;>try first|omega|exact rfl
   apply Y;simp(disch:=first|omega|assumption)[ga4,hel];apply Z;refine zk [0,2,3,4,5,6,7,8,9] ?_;refine zd qWr25 [.op {},.op {},.op {},.op {},.op {},.op {},.op {},.op {},.op {},.op {},.op {},.op {},.op {},.op {},.op {},.op {},.op {},.op {},.op {},.op {},.op {},.op {},.op {},.op {}] fun all hall _ Z=>?_;have ga6:aO all 6=some 47:=hall 6;have ga9:aO all 9=some 50:=hall 9;have ga12:aO all 12=some 53:=hall 12;refine eR 7 fun _ Y=>?_;simp(disch:=first|omega|assumption)[ga6,ga9,ga12,hel];and_intros<;>try first|omega|exact rfl
   apply Y;refine dU 47 (by simp <;> rfl) ?_;refine⟨fun g7=>?_,fun g7=>?_⟩
   ·try simp at g7
    refine eR 3 fun _ Y=>?_;simp(disch:=first|omega|assumption)[ga6,ga9,ga12,hel];apply Y;refine dU 50 (by simp <;> rfl) ?_;refine⟨fun g8=>?_,fun g8=>?_⟩
    ·try simp at g8
     have hg8:=True.intro;refine eR 3 fun _ Y=>?_;simp(disch:=first|omega|assumption)[ga6,ga9,ga12,hel];apply Y;refine dU 53 (by simp <;> rfl) ?_;refine⟨fun g9=>?_,fun g9=>?_⟩
     ·try simp at g9
      have hbn:=Lis.bst_yes (l:=l) (n:=Lis.maxK l l.length - k) (behind:=Lis.beh l k) hik (by omega) (.inr ⟨by omega,by omega⟩) (.inl (by omega));refine eR 8 fun _ Y=>?_;simp(disch:=first|omega|assumption)[ga6,ga9,ga12,hel];and_intros<;>try first|omega|exact rfl
      apply Y;simp(disch:=first|omega|assumption)[ga6,ga9,ga12,hel];apply Z;refine bD (t:=true) (by simp) (fun _=>?_) (fun h=>by cases h);refine zk [0,2,3,4,5,6,7,8,9] ?_;refine zt qWr25 fun _ _ Z=>?_;simp(disch:=first|omega|assumption)[hel];apply Z;apply aH;apply aA;refine zt qWr25 fun _ _ Z=>?_;simp(disch:=first|omega|assumption)[hel];and_intros<;>try first|omega|exact rfl
      apply Z;refine zq (i+1) ?_ ?_ ?_
      ·omega
      ·try dsimp only
       omega
      simp(disch:=first|omega|assumption)[hbn,hel]
     try simp at g9
     obtain⟨b,hb⟩:∃b:Nat,Lis.bst l (Lis.maxK l l.length - k) (Lis.beh l k) i=b:=⟨_,(Int.toNat_of_nonneg (by omega)).symm⟩;refine eR 8 fun _ Y=>?_;simp(disch:=first|omega|assumption)[ga6,ga9,ga12,hel,hb];and_intros<;>try first|omega|exact rfl
     apply Y;simp(disch:=first|omega|assumption)[ga6,ga9,ga12,hel,hb];apply Z;refine zi ?_;refine⟨fun c10=>?_,fun c10=>?_⟩
     ·try simp at c10
      have hbn:=Lis.bst_yes (l:=l) (n:=Lis.maxK l l.length - k) (behind:=Lis.beh l k) hik (by omega) (.inr ⟨by omega,by omega⟩) (.inr ⟨b,hb,by omega,by omega⟩);refine zk [0,2,3,4,5,6,7,8,9] ?_;refine zt qWr25 fun _ _ Z=>?_;simp(disch:=first|omega|assumption)[hel,hb];apply Z;apply aH;apply aA;refine zt qWr25 fun _ _ Z=>?_;simp(disch:=first|omega|assumption)[hel,hb];and_intros<;>try first|omega|exact rfl
      apply Z;refine zq (i+1) ?_ ?_ ?_
      ·omega
      ·try dsimp only
       omega
      simp(disch:=first|omega|assumption)[hbn,hel,hb]
     try simp at c10
     have hbn:=Lis.bst_no (l:=l) (n:=Lis.maxK l l.length - k) (behind:=Lis.beh l k) hik hbl (.inr (.inr ⟨b,hb,by omega,by omega⟩));apply aD;apply aH;apply aA;refine zk [0,2,3,4,5,6,7,8,9] ?_;refine zt qWr25 fun _ _ Z=>?_;simp(disch:=first|omega|assumption)[hel,hb];and_intros<;>try first|omega|exact rfl
     apply Z;refine zq (i+1) ?_ ?_ ?_
     ·omega
     ·try dsimp only
      omega
     simp(disch:=first|omega|assumption)[hbn,hel,hb]
    try simp at g8
    have hbn:=Lis.bst_no (l:=l) (n:=Lis.maxK l l.length - k) (behind:=Lis.beh l k) hik hbl (.inr (.inl ⟨by omega,by omega⟩));refine eR 8 fun _ Y=>?_;simp(disch:=first|omega|assumption)[ga6,ga9,ga12,hel];and_intros<;>try first|omega|exact rfl
    apply Y;simp(disch:=first|omega|assumption)[ga6,ga9,ga12,hel];apply Z;refine bD (t:=false) (by simp) (fun h=>by cases h) (fun _=>?_);apply aD;apply aH;apply aA;refine zk [0,2,3,4,5,6,7,8,9] ?_;refine zt qWr25 fun _ _ Z=>?_;simp(disch:=first|omega|assumption)[hel];and_intros<;>try first|omega|exact rfl
    apply Z;refine zq (i+1) ?_ ?_ ?_
    ·omega
    ·try dsimp only
     omega
    simp(disch:=first|omega|assumption)[hbn,hel]
   try simp at g7
   have hbn:=Lis.bst_no (l:=l) (n:=Lis.maxK l l.length - k) (behind:=Lis.beh l k) hik hbl (.inl (by omega));refine eR 3 fun _ Y=>?_;simp(disch:=first|omega|assumption)[ga6,ga9,ga12,hel];apply Y;refine eR 8 fun _ Y=>?_;simp(disch:=first|omega|assumption)[ga6,ga9,ga12,hel];and_intros<;>try first|omega|exact rfl
   apply Y;simp(disch:=first|omega|assumption)[ga6,ga9,ga12,hel];apply Z;refine bD (t:=false) (by simp) (fun h=>by cases h) (fun _=>?_);apply aD;apply aH;apply aA;refine zk [0,2,3,4,5,6,7,8,9] ?_;refine zt qWr25 fun _ _ Z=>?_;simp(disch:=first|omega|assumption)[hel];and_intros<;>try first|omega|exact rfl
   apply Z;refine zq (i+1) ?_ ?_ ?_
   ·omega
   ·try dsimp only
    omega
   simp(disch:=first|omega|assumption)[hbn,hel]
  try simp at c2
  obtain rfl:i=Lis.beh l k:=by omega
  have hbe:=Lis.bst_beh hkm;apply aY;apply aX;apply aZ;apply aR;apply aA;refine zk [0,2,3,4,5,6,7,8,9] ?_;refine zr qWr25 fun _ _ Z=>?_;simp(disch:=first|omega|assumption)[hbe];and_intros<;>try first|omega|exact rfl
  apply Z;refine zk [0,2,3,4,5,6,7,8,9] ?_;refine zt qWr25 fun _ _ Z=>?_;simp(disch:=first|omega|assumption)[hbe];apply Z;apply aH;apply aA;refine zt qWr25 fun _ _ Z=>?_;simp(disch:=first|omega|assumption)[hbe];and_intros<;>try first|omega|exact rfl
  apply Z;refine zq (k+1) ?_ ?_ ?_
  ·omega
  ·try dsimp only
   omega
  simp(disch:=first|omega|assumption)[hrw,hm1,hbe]
 try simp at c1
 obtain rfl:k=Lis.maxK l l.length:=by omega
 rw [Lis.ofR_row];apply aY;apply aX;apply aZ;apply aR;apply aA;refine zr qWr25 fun _ _ Z=>?_;simp(disch:=first|omega|assumption);apply Z;apply aC;simp [aK]
end Go.Proofs.YtbgfljpnhhdkoaaGreat
