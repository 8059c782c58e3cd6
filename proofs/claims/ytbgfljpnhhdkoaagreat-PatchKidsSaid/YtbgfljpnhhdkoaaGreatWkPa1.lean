import Derived.Test.YtbgfljpnhhdkoaaGreatWkWr2
import Derived.Test.YtbgfljpnhhdkoaaGreatWkWv4
import Derived.Test.YtbgfljpnhhdkoaaGreatWkWv0
open Go.Proofs.Tryz
set_option linter.all false
namespace Go.Proofs.YtbgfljpnhhdkoaaGreat
open Go Go.Vm
set_option maxRecDepth 20000
set_option maxHeartbeats 8000000
theorem aLb(a:List Int) {b:List Int} (hb:b.Nodup):gJ a b=(Lis.ofR (kJ a b)).map fun i=>((eB a b)[i]?.getD 0):=by unfold gJ;rw [vB hb]
theorem aIx {a b:List Int} (hb:b.Nodup):∀i∈Lis.ofR (kJ a b),i<(eB a b).length:=fun i hi=>by
 rw [← vB hb] at hi;have:=Lis.ofP_lt _ i hi;rwa [jA] at this
theorem aFu {a b:List Int} (hb:b.Nodup):(Lis.ofR (kJ a b)).length≤(eB a b).length:=by
 rw [← vB hb,← jA];exact Lis.ofP_len _
theorem To(a b:List Int) {i:Nat} (h:i<(eB a b).length):(eB a b)[i]?.getD 0=(eB a b)[i]:=aH9 _ _ h
def xL(a b:List Int)(k:Nat):List Int:=(a.take k).filter fun x=>decide (x∈b)
def uP(I:List Int)(R:List Nat)(k:Nat):List Int:=(R.take k).map fun i=>I[i]?.getD 0
theorem Uf {a b:List Int} {R:List Nat} {k:Nat} (h:k<R.length)(h2:R[k]<(eB a b).length):uP (eB a b) R (k+1)=uP (eB a b) R k++ [(eB a b)[R[k]]]:=by
 unfold uP;rw [List.take_succ_eq_append_getElem h,List.map_append,List.map_cons,List.map_nil,To a b h2]
theorem aDg(I:List Int)(R:List Nat)(k:Nat)(h:k≤R.length):(uP I R k).length=k:=by simp [uP];omega
theorem Wu(I:List Int)(R:List Nat):uP I R R.length=R.map fun i=>I[i]?.getD 0:=by unfold uP;rw [List.take_length]
theorem aHf {S:List Int} {x:Int} :x∈bI S↔0≤pM x S:=by
 rw [oD];constructor
 ·intro h;exact Int.not_lt.1 fun q=>jG.1 q h
 intro h;exact Classical.byContradiction fun q=>absurd (jG.2 q) (Int.not_lt.2 h)
@[simp] abbrev qPa11:Cfg:=⟨[4,7,8,11,12,15,37,42,59,63,78,107,112,127,133,134,144],[],[],[],[]⟩
theorem Me(frm to:List Int)(σ:List (List D))(hf:frm.length≤10000)(ht:to.length≤10000):Ct prog 68 [.sl false (frm.map D.int),.sl false (to.map D.int)] σ (fun r σ'=>r= .sl true ((eX frm to).map Gr)∧σ'=σ):=by
 refine zf (rs:=[.tmp 4]) func68 ntmps68 results68 ?_;simp only [aN];obtain⟨a,ha⟩:∃a,bI frm=a:=⟨_,rfl⟩;obtain⟨b,hb⟩:∃b,bI to=b:=⟨_,rfl⟩;have han:a.Nodup:=by rw [← ha];exact lE _
 have hbn:b.Nodup:=by rw [← hb];exact lE _
 have hal:a.length≤10000:=by rw [← ha];have:=kK frm;omega
 have hbl:b.length≤10000:=by rw [← hb];have:=kK to;omega
 obtain⟨S,hS⟩:∃S,gJ a b=S:=⟨_,rfl⟩;obtain⟨os,hos⟩:∃os,bI S=os:=⟨_,rfl⟩;have hosm:∀x∈os,x∈a∧x∈b:=by rw [← hos,← hS];exact yZ fun i hi=>by have:=Lis.ofP_lt _ i hi;rwa [jA] at this
 obtain⟨R,hR⟩:∃R,Lis.ofR (kJ a b)=R:=⟨_,rfl⟩;have hSR:=aLb a hbn;have hRl:=aIx (a:=a) hbn;have hRn:=aFu (a:=a) hbn;rw [hS,hR] at hSR;rw [hR] at hRl hRn;have hkl:=oA a b;have hkr:=Dn a b;refine zr qPa11 fun _ _ Z=>?_;simp(disch:=omega)[ha,hb];apply Z;refine zr qPa11 fun _ _ Z=>?_;refine zs 1 fun _ Y=>?_;simp(disch:=omega)[ha,hb];apply Y;refine aE fun _ Y=>?_;simp(disch:=omega)[ha,hb];refine bX (Ee frm _ (by omega)) ?_;apply Y;simp(disch:=omega)[ha,hb];apply Z;refine zr qPa11 fun _ _ Z=>?_;refine zs 1 fun _ Y=>?_;simp(disch:=omega)[ha,hb];apply Y;refine aE fun _ Y=>?_;simp(disch:=omega)[ha,hb];refine bX (Ee to _ (by omega)) ?_;apply Y;simp(disch:=omega)[ha,hb];apply Z;refine zr qPa11 fun _ _ Z=>?_;simp(disch:=omega)[ha,hb];and_intros<;>(try omega);apply Z;refine zr qPa11 fun _ _ Z=>?_;simp(disch:=omega)[ha,hb];and_intros<;>(try omega);apply Z;apply aB;refine zr qPa11 fun _ _ Z=>?_;simp(disch:=omega)[ha,hb];and_intros<;>(try omega);apply Z;apply aF;refine zk [4,5,6,7,8,27,28,29] ?_;refine bA (fun(k:Nat)=> [(29,.d (.v (.int .i64 (k:Int)))),(7,.d (.sl true ((gB (a.take k) b).map Gr))),(8,.d (.sl true ((xL a b k).map D.int))),(10,.d (.any))]) [7,8,10,29,30,31,32,33,34,35,36,37,38,39,40,41,42,43,44,45,46] (fun(k:Nat)=>k≤a.length) (fun(k:Nat)=>a.length - k) (0) (by simp <;> rfl) ?_ ?_ ?_
 ·simp [gB,xL]
 ·simp
 rintro k hk;simp only [List.cons_append,List.nil_append];have hfl:(xL a b k).length≤k:=Ju a b k;have hdl:=Ec a b k;refine zr qPa11 fun _ _ Z=>?_;simp(disch:=omega)[ha,hb];apply Z;apply aB;refine zi ?_;refine⟨fun c1=>?_,fun c1=>?_⟩
 ·try simp at c1
  apply aD;apply aA;apply aB;apply aF;refine zr qPa11 fun _ _ Z=>?_;simp(disch:=omega)[ha,hb];and_intros<;>(try omega);apply Z;refine zk [4,5,6,7,8,10,27,28,29] ?_;refine zr qPa11 fun _ _ Z=>?_;refine zs 2 fun _ Y=>?_;simp(disch:=omega)[ha,hb];apply Y;refine aE fun _ Y=>?_;simp(disch:=omega)[ha,hb];refine bX (nF b a[k] _ (by omega)) ?_;apply Y;simp(disch:=omega)[ha,hb];apply Z;refine zi ?_;refine⟨fun c2=>?_,fun c2=>?_⟩
  ·try simp at c2
   have hmem:¬a[k]∈b:=jG.1 c2;have hfi:xL a b (k+1)=xL a b k:=Py c1 hmem;have hdr:=Jk c1 hmem;refine zk [4,5,6,7,8,10,27,28,29] ?_;refine zt qPa11 fun _ _ Z=>?_;simp(disch:=omega)[ha,hb];and_intros<;>(try omega);apply Z;apply aH;apply aA;refine zk [4,5,6,7,8,10,27,28,29] ?_;refine zt qPa11 fun _ _ Z=>?_;simp(disch:=omega)[ha,hb];and_intros<;>(try omega);apply Z;refine zq (k+1) ?_ ?_ ?_
   ·omega
   ·try dsimp only
    omega
   simp(disch:=omega)[hfi,hdr,ha,hb]
  try simp at c2
  have hmem:a[k]∈b:=Classical.byContradiction fun h=>by have:=jG.2 h;omega
  have hfi:xL a b (k+1)=xL a b k++ [a[k]]:=Jw c1 hmem;have hdr:=Pm c1 hmem;refine zk [4,5,6,7,8,10,27,28,29] ?_;refine zt qPa11 fun _ _ Z=>?_;simp(disch:=omega)[ha,hb];and_intros<;>(try omega);apply Z;apply aH;apply aA;refine zk [4,5,6,7,8,10,27,28,29] ?_;refine zt qPa11 fun _ _ Z=>?_;simp(disch:=omega)[ha,hb];and_intros<;>(try omega);apply Z;refine zq (k+1) ?_ ?_ ?_
  ·omega
  ·try dsimp only
   omega
  simp(disch:=omega)[hfi,hdr,ha,hb]
 try simp at c1
 obtain rfl:k=a.length:=by omega
 simp only [List.take_length];apply aY;apply aX;apply aZ;apply aR;apply aA;refine zr qPa11 fun _ _ Z=>?_;simp(disch:=omega)[ha,hb];and_intros<;>(try omega);apply Z;refine zk [4,5,6,7,8,11] ?_;refine zr qPa11 fun _ _ Z=>?_;simp(disch:=omega)[ha,hb];and_intros<;>(try omega);apply Z;apply aB;refine zr qPa11 fun _ _ Z=>?_;simp(disch:=omega)[ha,hb];and_intros<;>(try omega);apply Z;apply aF;refine zk [4,5,6,7,8,11,12,49,50,51] ?_;refine bA (fun(k:Nat)=> [(51,.d (.v (.int .i64 (k:Int)))),(11,.d (.sl true ((eB a (b.take k)).map D.int))),(12,.d (.sl true ((kJ a (b.take k)).map D.int))),(14,.d (.any))]) [11,12,14,51,52,53,54,55,56,57,58,59,60,61,62,63,64,65,66,67,68,69] (fun(k:Nat)=>k≤b.length) (fun(k:Nat)=>b.length - k) (0) (by simp <;> rfl) ?_ ?_ ?_
 ·simp [eB,kJ]
 ·simp
 rintro k hk;simp only [List.cons_append,List.nil_append];have hil:=oA a (b.take k);have hol:=Dn a (b.take k);simp only [List.length_take] at hil;refine zr qPa11 fun _ _ Z=>?_;simp(disch:=omega)[ha,hb];apply Z;apply aB;refine zi ?_;refine⟨fun c3=>?_,fun c3=>?_⟩
 ·try simp at c3
  apply aD;apply aA;apply aB;apply aF;refine zk [4,5,6,7,8,11,12,14,49,50,51] ?_;refine zr qPa11 fun _ _ Z=>?_;simp(disch:=omega)[ha,hb];and_intros<;>(try omega);apply Z;refine zk [4,5,6,7,8,11,12,14,49,50,51] ?_;refine zr qPa11 fun _ _ Z=>?_;refine zs 2 fun _ Y=>?_;simp(disch:=omega)[ha,hb];apply Y;refine aE fun _ Y=>?_;simp(disch:=omega)[ha,hb];refine bX (nF a b[k] _ (by omega)) ?_;apply Y;simp(disch:=omega)[ha,hb];apply Z;refine zi ?_;refine⟨fun c4=>?_,fun c4=>?_⟩
  ·try simp at c4
   have hmem:b[k]∈a:=Classical.byContradiction fun h=>by have:=jG.2 h;omega
   have hkI:=rB c3 hmem;have hkR:=Sl c3 hmem;refine zk [4,5,6,7,8,11,12,14,49,50,51] ?_;refine zr qPa11 fun _ _ Z=>?_;simp(disch:=omega)[ha,hb];and_intros<;>(try omega);apply Z;refine zk [4,5,6,7,8,11,12,14,49,50,51] ?_;refine zt qPa11 fun _ _ Z=>?_;refine zs 3 fun _ Y=>?_;simp(disch:=omega)[ha,hb];apply Y;refine aE fun _ Y=>?_;simp(disch:=omega)[ha,hb];refine bX (nF a b[k] _ (by omega)) ?_;apply Y;simp(disch:=omega)[ha,hb];and_intros<;>(try omega);apply Z;apply aH;apply aA;refine zk [4,5,6,7,8,11,12,14,49,50,51] ?_;refine zt qPa11 fun _ _ Z=>?_;simp(disch:=omega)[ha,hb];and_intros<;>(try omega);apply Z;refine zq (k+1) ?_ ?_ ?_
   ·omega
   ·try dsimp only
    omega
   simp(disch:=omega)[hkI,hkR,ha,hb]
  try simp at c4
  have hmem:¬b[k]∈a:=jG.1 (by omega);have hkI:=uS c3 hmem;have hkR:=Yb c3 hmem;apply aD;apply aH;apply aA;refine zk [4,5,6,7,8,11,12,14,49,50,51] ?_;refine zt qPa11 fun _ _ Z=>?_;simp(disch:=omega)[ha,hb];and_intros<;>(try omega);apply Z;refine zq (k+1) ?_ ?_ ?_
  ·omega
  ·try dsimp only
   omega
  simp(disch:=omega)[hkI,hkR,ha,hb]
 try simp at c3
 obtain rfl:k=b.length:=by omega
 simp only [List.take_length];apply aY;apply aX;apply aZ;apply aR;apply aA;refine zk [4,5,6,7,8,11,12] ?_;refine zr qPa11 fun _ _ Z=>?_;simp(disch:=omega)[ha,hb];and_intros<;>(try omega);apply Z;apply aB;refine zr qPa11 fun _ _ Z=>?_;refine zs 1 fun _ Y=>?_;simp(disch:=omega)[ha,hb];apply Y;refine aE fun _ Y=>?_;simp(disch:=omega)[ha,hb];refine bX (aEu (kJ a b) _ (by omega)) ?_;rw [hR];apply Y;simp(disch:=omega)[ha,hb];and_intros<;>(try omega);apply Z;apply aF;refine zk [4,5,6,7,8,11,15,72,73,74] ?_;refine bA (fun(k:Nat)=> [(74,.d (.v (.int .i64 (k:Int)))),(15,.d (.sl true ((uP (eB a b) R k).map D.int))),(17,.d (.any))]) [15,17,74,75,76,77,78,79,80,81,82,83,84,85] (fun(k:Nat)=>k≤R.length) (fun(k:Nat)=>R.length - k) (0) (by simp <;> rfl) ?_ ?_ ?_
 ·simp [uP]
 ·simp
 rintro k hk;simp only [List.cons_append,List.nil_append];have hrt:=aDg (eB a b) R k hk;refine zr qPa11 fun _ _ Z=>?_;simp(disch:=omega)[ha,hb];apply Z;apply aB;refine zi ?_;refine⟨fun c5=>?_,fun c5=>?_⟩
 ·try simp at c5
  have hlt:=hRl R[k] (List.getElem_mem c5);have hmn:=Uf c5 hlt;apply aD;apply aA;apply aB;apply aF;refine zk [4,5,6,7,8,11,15,17,72,73,74] ?_;refine zr qPa11 fun _ _ Z=>?_;simp(disch:=omega)[ha,hb];and_intros<;>(try omega);apply Z;refine zk [4,5,6,7,8,11,15,17,72,73,74] ?_;refine zt qPa11 fun _ _ Z=>?_;simp(disch:=omega)[ha,hb];and_intros<;>(try omega);apply Z;apply aH;apply aA;refine zk [4,5,6,7,8,11,15,17,72,73,74] ?_;refine zt qPa11 fun _ _ Z=>?_;simp(disch:=omega)[ha,hb];and_intros<;>(try omega);apply Z;refine zq (k+1) ?_ ?_ ?_
  ·omega
  ·try dsimp only
   omega
  simp(disch:=omega)[hmn,ha,hb]
 try simp at c5
 obtain rfl:k=R.length:=by omega
 rw [Wu,← hSR];apply aY;apply aX;apply aZ;apply aR;apply aA;apply aB;refine zk [4,5,6,7,8,15] ?_;refine zr qPa11 fun _ _ Z=>?_;simp(disch:=omega)[ha,hb];and_intros<;>(try omega);apply Z;apply aF;refine zk [4,5,6,7,8,15,18] ?_;refine bA (fun(k:Nat)=> [(18,.d (.int ((b.length:Int) - 1 - (k:Nat)))),(7,.d (.sl true ((gS a b os k).2.map Gr))),(8,.d (.sl true ((gS a b os k).1.map D.int))),(19,.d (.any)),(20,.d (.any))]) [7,8,18,19,20,89,90,91,92,93,94,95,96,97,98,99,100,101,102,103,104,105,106,107,108,109,110,111,112,113,114,115,116,117,118,119,120,121,122,123,124,125,126,127,128,129,130,131,132,133,134,135,136,137,138,139,140,141,142,143] (fun(k:Nat)=>k≤b.length) (fun(k:Nat)=>b.length - k) (0) (by simp <;> rfl) ?_ ?_ ?_
 ·simp [gS,xL]
 ·simp
 rintro k hk;simp only [List.cons_append,List.nil_append];have hm1:(b.length:Int) - 1 - ((k:Int)+1)=(b.length:Int) - 1 - k - 1:=by omega
 apply aB;refine zr qPa11 fun _ _ Z=>?_;simp(disch:=omega)[ha,hb];apply Z;refine zi ?_;refine⟨fun c6=>?_,fun c6=>?_⟩
 ·try simp at c6
  obtain⟨i,hii⟩:∃i:Nat,(b.length:Int) - 1 - k=i:=⟨b.length - 1 - k,by omega⟩;have hi:i<b.length:=by omega
  have hik:b.length - 1 - k=i:=by omega
  obtain⟨s,hs⟩:∃s,gS a b os k=s:=⟨_,rfl⟩;have inv:=uI hbn hosm k (by omega);have hrl:=uN (a:=a) (b:=b) (os:=os) k;have hnx:gS a b os (k+1)=zQ a b os i (gS a b os k):=by rw [← hik];rfl
  rw [hs] at inv hrl hnx ⊢;have hlen:=inv.len;have hgl:=Be a s.1 b[i];apply aD;apply aA;apply aB;apply aF;apply aB;refine zr qPa11 fun _ _ Z=>?_;refine zs 5 fun _ Y=>?_;simp(disch:=omega)[ha,hb,hii];and_intros<;>(try omega);apply Y;refine aE fun _ Y=>?_;simp(disch:=omega)[ha,hb,hii];refine bX (nF S b[i] _ (by rw [hSR,List.length_map];omega)) ?_;apply Y;simp(disch:=omega)[ha,hb,hii];apply Z;refine zi ?_;refine⟨fun c7=>?_,fun c7=>?_⟩
  ·try simp at c7
   have hin:b[i]∈os:=by rw [← hos];exact aHf.2 c7
   have hnk:gS a b os (k+1)=s:=by rw [hnx];exact Mo hi hin
   apply aY;apply aX;apply aR;apply aA;refine zk [4,5,6,7,8,15,18,19,20] ?_;refine zt qPa11 fun _ _ Z=>?_;simp(disch:=omega)[ha,hb,hii];and_intros<;>(try omega);apply Z;refine zq (k+1) ?_ ?_ ?_
   ·omega
   ·try dsimp only
    omega
   simp(disch:=omega)[hnk,hm1,ha,hb,hii]
  try simp at c7
  have hin:¬b[i]∈os:=by rw [← hos];exact fun h=>by have:=aHf.1 h;omega
  have hnk:=rJ (a:=a) (os:=os) (s:=s) hi hin;rw [← hnx] at hnk;have hps:=Nd hbn (by omega) inv hik hi hin;apply aD;apply aA;refine zk [4,5,6,7,8,15,18,19,20] ?_;refine zr qPa11 fun _ _ Z=>?_;simp(disch:=omega)[ha,hb,hii];apply Z;apply aB;refine zr qPa11 fun _ _ Z=>?_;refine zs 5 fun _ Y=>?_;simp(disch:=omega)[ha,hb,hii];and_intros<;>(try omega);apply Y;refine aE fun _ Y=>?_;simp(disch:=omega)[ha,hb,hii];refine bX (nF a b[i] _ (by omega)) ?_;apply Y;simp(disch:=omega)[ha,hb,hii];apply Z;refine zi ?_;refine⟨fun c8=>?_,fun c8=>?_⟩
  ·try simp at c8
   have hka:b[i]∈a:=Classical.byContradiction fun h=>by have:=jG.2 h;omega
   rw [if_pos hka] at hnk;have hgn:eG s.1 b[i]=cS a s.1 b[i]:=by unfold cS;rw [if_pos hka];rfl
   refine zk [4,5,6,7,8,15,18,19,20] ?_;refine zr qPa11 fun _ _ Z=>?_;simp(disch:=omega)[ha,hb,hii];apply Z;refine zt qPa11 fun _ _ Z=>?_;refine zs 5 fun _ Y=>?_;simp(disch:=omega)[ha,hb,hii];and_intros<;>(try omega);apply Y;refine aE fun _ Y=>?_;simp(disch:=omega)[ha,hb,hii];refine bX (Gl s.1 b[i] _ (by omega)) ?_;apply Y;simp(disch:=omega)[ha,hb,hii];apply Z;apply aA;rw [hgn];refine zk [4,5,6,7,8,15,18,19,20] ?_;refine zr qPa11 fun _ _ Z=>?_;simp(disch:=omega)[ha,hb,hii];and_intros<;>(try omega);apply Z;apply aB;refine zk [4,5,6,7,8,15,18,19,20] ?_;refine zr qPa11 fun _ _ Z=>?_;simp(disch:=omega)[ha,hb,hii];and_intros<;>(try omega);apply Z;refine zi ?_;refine⟨fun c9=>?_,fun c9=>?_⟩
   ·try simp at c9
    refine zk [4,5,6,7,8,15,18,19,20] ?_;refine zt qPa11 fun _ _ Z=>?_;refine zs 6 fun _ Y=>?_;simp(disch:=omega)[ha,hb,hii];and_intros<;>(try omega);apply Y;refine aE fun _ Y=>?_;simp(disch:=omega)[ha,hb,hii];refine bX (nF (cS a s.1 b[i]) b[i+1] _ (by omega)) ?_;rw [hps.2.1 (by omega)];apply Y;simp(disch:=omega)[ha,hb,hii];apply Z;apply aA;refine zk [4,5,6,7,8,15,18,19,20] ?_;refine zr qPa11 fun _ _ Z=>?_;refine zs 6 fun _ Y=>?_;simp(disch:=omega)[ha,hb,hii];and_intros<;>(try omega);apply Y;refine aE fun _ Y=>?_;simp(disch:=omega)[ha,hb,hii];refine bX (uA (cS a s.1 b[i]) (mZ b (cS a s.1 b[i]) i) b[i] _ (by omega) (by omega)) ?_;apply Y;simp(disch:=omega)[ha,hb,hii];apply Z;refine zk [4,5,6,7,8,15,18,19,20] ?_;refine zt qPa11 fun _ _ Z=>?_;refine zs 8 fun _ Y=>?_;simp(disch:=omega)[ha,hb,hii];and_intros<;>(try omega);apply Y;simp(disch:=omega)[ha,hb,hii];and_intros<;>(try omega);apply Z;apply aH;apply aA;refine zk [4,5,6,7,8,15,18,19,20] ?_;refine zt qPa11 fun _ _ Z=>?_;simp(disch:=omega)[ha,hb,hii];and_intros<;>(try omega);apply Z;refine zq (k+1) ?_ ?_ ?_
    ·omega
    ·try dsimp only
     omega
    simp(disch:=omega)[hnk,hm1,ha,hb,hii]
   try simp at c9
   apply aD;apply aA;rw [← hps.2.2 (by omega)];refine zk [4,5,6,7,8,15,18,19,20] ?_;refine zr qPa11 fun _ _ Z=>?_;refine zs 6 fun _ Y=>?_;simp(disch:=omega)[ha,hb,hii];and_intros<;>(try omega);apply Y;refine aE fun _ Y=>?_;simp(disch:=omega)[ha,hb,hii];refine bX (uA (cS a s.1 b[i]) (mZ b (cS a s.1 b[i]) i) b[i] _ (by omega) (by omega)) ?_;apply Y;simp(disch:=omega)[ha,hb,hii];apply Z;refine zk [4,5,6,7,8,15,18,19,20] ?_;refine zt qPa11 fun _ _ Z=>?_;refine zs 8 fun _ Y=>?_;simp(disch:=omega)[ha,hb,hii];and_intros<;>(try omega);apply Y;simp(disch:=omega)[ha,hb,hii];and_intros<;>(try omega);apply Z;apply aH;apply aA;refine zk [4,5,6,7,8,15,18,19,20] ?_;refine zt qPa11 fun _ _ Z=>?_;simp(disch:=omega)[ha,hb,hii];and_intros<;>(try omega);apply Z;refine zq (k+1) ?_ ?_ ?_
   ·omega
   ·try dsimp only
    omega
   simp(disch:=omega)[hnk,hm1,ha,hb,hii]
  try simp at c8
  have hka:¬b[i]∈a:=jG.1 (by omega);rw [if_neg hka] at hnk;have hgn:s.1=cS a s.1 b[i]:=by unfold cS;rw [if_neg hka]
  apply aD;apply aA;rw [hgn];refine zk [4,5,6,7,8,15,18,19,20] ?_;refine zr qPa11 fun _ _ Z=>?_;simp(disch:=omega)[ha,hb,hii];and_intros<;>(try omega);apply Z;apply aB;refine zk [4,5,6,7,8,15,18,19,20] ?_;refine zr qPa11 fun _ _ Z=>?_;simp(disch:=omega)[ha,hb,hii];and_intros<;>(try omega);apply Z;refine zi ?_;refine⟨fun c10=>?_,fun c10=>?_⟩
  ·try simp at c10
   refine zk [4,5,6,7,8,15,18,19,20] ?_;refine zt qPa11 fun _ _ Z=>?_;refine zs 6 fun _ Y=>?_;simp(disch:=omega)[ha,hb,hii];and_intros<;>(try omega);apply Y;refine aE fun _ Y=>?_;simp(disch:=omega)[ha,hb,hii];refine bX (nF (cS a s.1 b[i]) b[i+1] _ (by omega)) ?_;rw [hps.2.1 (by omega)];apply Y;simp(disch:=omega)[ha,hb,hii];apply Z;apply aA;refine zk [4,5,6,7,8,15,18,19,20] ?_;refine zr qPa11 fun _ _ Z=>?_;refine zs 6 fun _ Y=>?_;simp(disch:=omega)[ha,hb,hii];and_intros<;>(try omega);apply Y;refine aE fun _ Y=>?_;simp(disch:=omega)[ha,hb,hii];refine bX (uA (cS a s.1 b[i]) (mZ b (cS a s.1 b[i]) i) b[i] _ (by omega) (by omega)) ?_;apply Y;simp(disch:=omega)[ha,hb,hii];apply Z;refine zk [4,5,6,7,8,15,18,19,20] ?_;refine zt qPa11 fun _ _ Z=>?_;refine zs 8 fun _ Y=>?_;simp(disch:=omega)[ha,hb,hii];and_intros<;>(try omega);apply Y;simp(disch:=omega)[ha,hb,hii];and_intros<;>(try omega);apply Z;apply aH;apply aA;refine zk [4,5,6,7,8,15,18,19,20] ?_;refine zt qPa11 fun _ _ Z=>?_;simp(disch:=omega)[ha,hb,hii];and_intros<;>(try omega);apply Z;refine zq (k+1) ?_ ?_ ?_
   ·omega
   ·try dsimp only
    omega
   simp(disch:=omega)[hnk,hm1,ha,hb,hii]
  try simp at c10
  apply aD;apply aA;rw [← hps.2.2 (by omega)];refine zk [4,5,6,7,8,15,18,19,20] ?_;refine zr qPa11 fun _ _ Z=>?_;refine zs 6 fun _ Y=>?_;simp(disch:=omega)[ha,hb,hii];and_intros<;>(try omega);apply Y;refine aE fun _ Y=>?_;simp(disch:=omega)[ha,hb,hii];refine bX (uA (cS a s.1 b[i]) (mZ b (cS a s.1 b[i]) i) b[i] _ (by omega) (by omega)) ?_;apply Y;simp(disch:=omega)[ha,hb,hii];apply Z;refine zk [4,5,6,7,8,15,18,19,20] ?_;refine zt qPa11 fun _ _ Z=>?_;refine zs 8 fun _ Y=>?_;simp(disch:=omega)[ha,hb,hii];and_intros<;>(try omega);apply Y;simp(disch:=omega)[ha,hb,hii];and_intros<;>(try omega);apply Z;apply aH;apply aA;refine zk [4,5,6,7,8,15,18,19,20] ?_;refine zt qPa11 fun _ _ Z=>?_;simp(disch:=omega)[ha,hb,hii];and_intros<;>(try omega);apply Z;refine zq (k+1) ?_ ?_ ?_
  ·omega
  ·try dsimp only
   omega
  simp(disch:=omega)[hnk,hm1,ha,hb,hii]
 try simp at c6
 obtain rfl:k=b.length:=by omega
 apply aY;apply aX;apply aZ;apply aR;apply aA;refine zr qPa11 fun _ _ Z=>?_;simp(disch:=omega);apply Z;apply aC;simp [aK,eX,ha,hb,hS,hos]
set_option maxRecDepth 20000
set_option maxHeartbeats 8000000
theorem Df(acts:List Act)(G:Nat→RD→Prop)(hG0:G 0 (newX 20))(hGs:∀(k:Nat) (hk:k<acts.length) (x y:RD),G k x→DoS acts[k] x y→G (k+1) y)(σ:List (List D))(hl:acts.length≤9223372036854775807)(ha:∀a∈acts,a.name.size≤9223372036854775807∧a.value.size≤9223372036854775807):Ct prog 13 [.sl false (acts.map nC)] σ (fun r σ'=>∃k m M l d rk x,k≤30∧k≤acts.length∧(k<acts.length→k=30)∧r= .tup [.ref l 0,dS x]∧LX k m M l d rk x [] σ'∧G k x):=by
 refine zf (rs:=[.tmp 2,.cell 3 30]) func13 ntmps13 results13 ?_;simp only [aN];refine aW fun _ _ Z=>?_;simp(disch:=omega);apply Z;refine aW fun _ _ Z=>?_;refine aE fun _ Y=>?_;simp(disch:=omega);refine Vo (aFt 20 _) ?_;rintro _ τ0 ⟨hr9,hs9⟩;subst hr9;obtain⟨m,M,dd,rk0,hm0,hx0,hi0⟩:=aHx _ _ _ hs9;rw [hm0];clear hs9 hm0;apply Y;refine aE fun _ Y=>?_;simp(disch:=omega);refine bX (aGg 20 _) ?_;apply Y;simp(disch:=omega);apply Z;apply aB;refine aW fun _ _ Z=>?_;simp(disch:=omega);apply Z;refine zi ?_;refine⟨fun c1=>?_,fun c1=>?_⟩
 ·simp at c1
 try simp at c1
 apply aD;apply aA;apply aB;refine aW fun _ _ Z=>?_;simp(disch:=omega);apply Z;apply aF;refine zk [0,2,3,4,5,6] ?_;refine jT (fun(p:Nat×DS×(Int→Nat)×RD×List (List D))=> [(6,.d (.v (.int .i64 p.1)))]) (fun(p:Nat×DS×(Int→Nat)×RD×List (List D))=> [[D.int 0,D.int 0,.sl true []], [.v (.int .i64 p.2.2.2.1.most),.v (.int .i64 p.2.2.2.1.next),.sl false (p.2.2.2.1.l.map rW)]]) (fun(p:Nat×DS×(Int→Nat)×RD×List (List D))=>p.2.2.2.2) [6,12,13,14,15,16,17,18,19,20,21,22,23,24,25,26,27,28,29,30,31] (fun(p:Nat×DS×(Int→Nat)×RD×List (List D))=>p.1≤acts.length∧p.1≤30∧IX p.1 m M p.2.1 p.2.2.1 p.2.2.2.1 p.2.2.2.2∧G p.1 p.2.2.2.1) (fun(p:Nat×DS×(Int→Nat)×RD×List (List D))=>acts.length - p.1) ((0,dd,rk0,newX 20,τ0)) (by simp <;> rfl) ?_ (by simp) (by simp) ?_ ?_
 ·simp
 ·exact⟨Nat.zero_le _,Nat.zero_le _,hi0,hG0⟩
 rintro⟨k,d,rk,x,τ⟩ ⟨hk,hk3,hx,hg⟩;simp only [List.cons_append,List.nil_append];simp only at hk hk3 hx hg;apply aB;refine kX ⟨[],[],[],[],[]⟩ fun all hall _ Z=>?_;have ga4:aO all 4=some 16:=hall 4;refine zs 5 fun _ Y=>?_;simp(disch:=omega)[ga4];and_intros<;>(try omega);apply Y;refine aS 16 (by simp <;> rfl) ?_;refine⟨fun g2=>?_,fun g2=>?_⟩
 ·try simp at g2
  simp(disch:=omega)[ga4];apply Z;refine zi ?_;refine⟨fun c3=>?_,fun c3=>?_⟩
  ·try simp at c3
   apply aD;apply aA;apply aB;apply aF;refine zk [0,2,3,4,5,6] ?_;refine ze ⟨[],[],[],[],[]⟩ [.op {},.op {rL:=true},.op {},.op {},.op {},.op {},.det,.op {},.op {},.op {},.op {rL:=true,wL:=true}] fun all hall _ Z=>?_;refine eR 6 fun _ Y=>?_;simp(disch:=omega);and_intros<;>(try omega);apply Y;refine dI fun _ Y=>?_;simp(disch:=omega);obtain⟨d2,rk2,σ2,y2,hc2,hx2,hn2,fr2,hds⟩:=aE6 acts[k] hx (by omega) (aB2 ha (by omega)).1 (aB2 ha (by omega)).2;refine zdd (hc2) ?_;apply Y;simp(disch:=omega);apply Z;apply aH;apply aA;refine zk [0,2,3,4,5,6] ?_;refine pP fun _ _ Z=>?_;simp(disch:=omega);and_intros<;>(try omega);apply Z;refine zq ((k+1,d2,rk2,y2,σ2)) ?_ ?_ ?_
   ·exact⟨by simp only;omega,by simp only;omega,hx2,hGs k (by omega) _ _ hg hds⟩
   ·try dsimp only
    omega
   simp(disch:=omega)
  try simp at c3
  apply aY;apply aX;apply aZ;apply aR;apply aA;refine zk [2,3,4,5] ?_;refine zd ⟨[],[],[],[],[]⟩ [.op {},.det,.op {rL:=true},.op {},.op {rL:=true,wL:=true}] fun all hall _ Z=>?_;refine eR 1 fun _ Y=>?_;simp(disch:=omega);apply Y;refine dI fun _ Y=>?_;simp(disch:=omega);refine zdd (aAk m _) ?_;apply Y;simp(disch:=omega);apply Z;apply aC;simp [aK];exact⟨k,by omega,by omega,by omega,m,M,_,d,rk,x,⟨rfl,rfl,rfl,rfl⟩,LX.on hx,hg⟩
 try simp at g2
 simp(disch:=omega)[ga4];apply Z;refine bD (t:=false) (by simp) (fun h=>by cases h) (fun _=>?_);apply aY;apply aX;apply aZ;apply aR;apply aA;refine zk [2,3,4,5] ?_;refine zd ⟨[],[],[],[],[]⟩ [.op {},.det,.op {rL:=true},.op {},.op {rL:=true,wL:=true}] fun all hall _ Z=>?_;refine eR 1 fun _ Y=>?_;simp(disch:=omega);apply Y;refine dI fun _ Y=>?_;simp(disch:=omega);refine zdd (aAk m _) ?_;apply Y;simp(disch:=omega);apply Z;apply aC;simp [aK];exact⟨k,by omega,by omega,by omega,m,M,_,d,rk,x,⟨rfl,rfl,rfl,rfl⟩,LX.on hx,hg⟩
end Go.Proofs.YtbgfljpnhhdkoaaGreat
