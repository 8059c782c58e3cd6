import Derived.Test.YtbdjepeabjangaaGreatWkA1
import Derived.Test.YtbdjepeabjangaaGreatVmX7
set_option linter.all false
set_option maxRecDepth 20000
set_option maxHeartbeats 8000000
open Go.Proofs.Tryz
namespace Go.Proofs.YtbdjepeabjangaaGreat
open Go Go.Vm
variable {c:ByteArray}{j k:Nat}{l:List PI}
def wJ(l:List AT):List AT:=l.filter fun x=> !jH x.name
def wS(l:List PI):List PI:=l.filter fun x=> !jH x.name
theorem Yp(x:AT)(σ:List (List D))  :Ct prog 126 [cH x] σ (fun r σ'=>r= .bool (jH x.name)/\σ'=σ):=by
 refine zf func126 ?_;refine bT fun _ _ Z=>?_;simp;apply Z;refine bT fun _ _ Z=>?_;refine zs 2 fun _ Y=>?_;simp;apply Y;refine aG fun _ Y=>?_;simp;refine dX (oS x.name _) ?_;apply Y;simp;apply Z;apply aE;simp [aP]
theorem aAf(l:List AT)(σ:List (List D))(hl:l.length<=99999):Ct prog 91 [.sl false (l.map cH)] σ (fun r σ'=>r= .xs 2 (((jD nA l).filter fun x=> !jH x.name).map cH)/\σ'=σ):=by
 refine zf func91 ?_;refine zr ⟨[2],[],[],[],[]⟩ fun _ _ Z=>?_;simp;apply Z;refine zr ⟨[2],[],[],[],[]⟩ fun _ _ Z=>?_;refine zs 1 fun _ Y=>?_;simp;apply Y;refine aG fun _ Y=>?_;simp;refine dX (aIk l (fun x=>jH x.name) 126 [] _ hl (by simp) (by simp) (fun x τ=>Yp x τ)) ?_;apply Y;simp;apply Z;apply aE;simp [aP]
theorem aEz(l:List AT)(σ:List (List D))(hl:l.length<=99999)(hs:eE nA l):Ct prog 91 [.sl false (l.map cH)] σ (fun r σ'=>r= .sl false ((wJ l).map cH)/\σ'=σ):=
 (aAf l σ hl).freeze fun r σ' h=>by rw [sU nA hs] at h;exact h
theorem Xg(x:PI)(σ:List (List D))  :Ct prog 128 [bY x] σ (fun r σ'=>r= .bool (jH x.name)/\σ'=σ):=by
 refine zf func128 ?_;refine bT fun _ _ Z=>?_;simp;apply Z;refine bT fun _ _ Z=>?_;refine zs 2 fun _ Y=>?_;simp;apply Y;refine aG fun _ Y=>?_;simp;refine dX (oS x.name _) ?_;apply Y;simp;apply Z;apply aE;simp [aP]
theorem Zb(l:List PI)(σ:List (List D))(hl:l.length<=99999):Ct prog 92 [.sl false (l.map bY)] σ (fun r σ'=>r= .xs 2 (((jD nP l).filter fun x=> !jH x.name).map bY)/\σ'=σ):=by
 refine zf func92 ?_;refine zr ⟨[2],[],[],[],[]⟩ fun _ _ Z=>?_;simp;apply Z;refine zr ⟨[2],[],[],[],[]⟩ fun _ _ Z=>?_;refine zs 1 fun _ Y=>?_;simp;apply Y;refine aG fun _ Y=>?_;simp;refine dX (aI2 l (fun x=>jH x.name) 128 [] _ hl (by simp) (by simp) (fun x τ=>Xg x τ)) ?_;apply Y;simp;apply Z;apply aE;simp [aP]
theorem aDo(l:List PI)(σ:List (List D))(hl:l.length<=99999)(hs:eE nP l):Ct prog 92 [.sl false (l.map bY)] σ (fun r σ'=>r= .sl false ((wS l).map bY)/\σ'=σ):=
 (Zb l σ hl).freeze fun r σ' h=>by rw [sU nP hs] at h;exact h
def Mo(l:List PI)(k j:Nat):Option PI:=Gy nP (l.take j) ((jD nP l).take k)
def tI(l:List PI)(k j:Nat):PI:=(Mo l k j).getD ⟨⟨#[]⟩,0⟩
def ahd(l:List PI)(k:Nat)(c:ByteArray):Bool:=oE nP ((jD nP l).take k) c
theorem aRf(l:List PI)(k:Nat)(c:ByteArray)(h:k<(jD nP l).length):ahd l (k+1) c=dW (jD nP l)[k].name c:=by
 unfold ahd oE;rw [bB (jD nP l) k h,List.getLast?_concat]
theorem yB(l:List PI)(k j:Nat)(h:j<l.length):Mo l k (j+1)=if ahd l k l[j].name=true then(match Mo l k j with | none=>some l[j] | some q=>if dW (nP q) (nP l[j])=true then some q else some l[j])else Mo l k j:=by
 have e:=Zw nP l ((jD nP l).take k) j h;unfold Mo ahd;rw [e];cases Gy nP (l.take j) ((jD nP l).take k) <;> rfl
theorem qS (g:¬k=0)(hk:k<=(jD nP l).length)(c:ByteArray):ahd l k c=dW ((jD nP l)[k - 1]'(by omega)).name c:=by
 obtain⟨m,rfl⟩:∃m,k=m+1:=⟨k - 1,by omega⟩;exact aRf l m c (by omega)
theorem eV(l:List PI)(k:Nat):(∀d:D,d∈List.take k (List.map bY l)->d.ncells=2)↔True:=by
 refine⟨fun _=>trivial,fun _ d hd=>?_⟩;obtain⟨a,_,rfl⟩:=bW.1 (mW hd);rfl
theorem sQ (h:j<l.length)(ha:ahd l k l[j].name=true)(hc:(Mo l k j).isSome=false\/dW (tI l k j).name l[j].name=false):Mo l k (j+1)=some l[j]:=by
 rw [yB l k j h,aR ha];unfold tI at hc;cases hq:Mo l k j with
 | none=>rfl
 | some q=>
  rw [hq] at hc;have:dW (nP q) (nP l[j])=false:=by simpa using hc
  simp [this]
theorem sR (h:j<l.length)(ha:ahd l k l[j].name=false):Mo l k (j+1)=Mo l k j:=by
 rw [yB l k j h,aH (by rw [ha];simp)]
theorem sM (h:j<l.length)(h1:(Mo l k j).isSome=true)(h2:dW (tI l k j).name l[j].name=true):Mo l k (j+1)=Mo l k j:=by
 by_cases ha:ahd l k l[j].name=true
 .rw [yB l k j h,aR ha];unfold tI at h2;cases hq:Mo l k j with
  | none=>rw [hq] at h1;cases h1
  | some q=>
   rw [hq] at h2;have:dW (nP q) (nP l[j])=true:=h2;simp [this]
 rw [yB l k j h,aH ha]
theorem aJh (hk:k<=(jD nP l).length):Mo l k l.length=(jD nP l)[k]?:=by
 unfold Mo;rw [dY];exact aHb nP l k hk
theorem aMi(l:List PI)(k:Nat):Mo l k 0=none:=aOg nP l _
@[simp] abbrev q41_1:Cfg:=⟨[2,3,48,49],[],[],[],[]⟩
theorem aEw(l:List PI)(σ:List (List D))(hl:l.length<=99999):Ct prog 110 [.sl false (l.map bY)] σ (fun r σ'=>r= .sl true ((jD nP l).map bY)/\σ'=σ):=by
 refine zf func110 ?_;refine zr q41_1 fun _ _ Z=>?_;simp(disch:=omega)[aC,aB,eV];apply Z;refine zr q41_1 fun _ _ Z=>?_;simp(disch:=omega)[aC,aB,eV];and_intros<;>(try omega);apply Z;apply aN;refine zk [0,2,3] ?_;refine bA (fun(k:Nat)=> [(3,.d (.sl true (((jD nP l).take k).map bY)))]) [2,3,4,5,7,8,10,11,12,13,14,15,16,17,18,19,20,21,22,23,24,25,26,27,28,29,30,31,32,33,34,35,36,37,38,39,40,41,42,43,44,45,46,47,48,49,50,51,52] (fun(k:Nat)=>k<=(jD nP l).length) (fun(k:Nat)=>(jD nP l).length - k) (0) (by simp <;> rfl) ?_ ?_ ?_
 .simp
 .simp
 rintro k hk;simp only [aM,aK];have hol:=lO nP l;have hlk:((jD nP l).take k).length=k:=by simp;omega
 apply aN;refine zr q41_1 fun _ _ Z=>?_;simp(disch:=omega)[aC,aB,eV];apply Z;refine zr q41_1 fun _ _ Z=>?_;simp(disch:=omega)[aC,aB,eV];apply Z;apply aF;refine zr q41_1 fun _ _ Z=>?_;simp(disch:=omega)[aC,aB,eV];and_intros<;>(try omega);apply Z;apply aN;refine zk [0,3,4,5,11,12,13] ?_;refine eO (fun(j:Nat)=> [(13,.d (.v (.int .i64 (j:Int)))),(4,.d (.bool (Mo l k j).isSome)),(8,.d (.any))]) (fun(j:Nat)=> [(0, [.v (.string ((tI l k j).name)),.v (.int .i64 ((tI l k j).value))])]) (fun(j:Nat)=> []) [4,7,8,13,14,15,16,17,18,19,20,21,22,23,24,25,26,27,28,29,30,31,32,33,34,35,36,37,38,39,40,41,42,43,44,45] (fun(j:Nat)=>j<=l.length) (fun(j:Nat)=>l.length - j) (0) (by simp <;> rfl) ?_ (by simp [tI,aMi]) (by simp) ?_ ?_
 .simp [aMi,tI]
 .simp
 rintro j hj;simp only [aM,aK,dD,cJ,bK,bN];refine zr q41_1 fun _ _ Z=>?_;simp(disch:=omega)[aC,aB,eV];apply Z;apply aF;refine zI ?_ ?_<;>intro c1<;>try simp at c1
 .apply kL;refine zr q41_1 fun _ _ Z=>?_;simp(disch:=omega)[aC,aB,eV];and_intros<;>(try omega);apply Z;refine zk [0,3,4,5,7,8,11,12,13] ?_;refine zd q41_1 [.op {},.op {},.op {},.op {},.op {},.op {rL:=true},.op {},.op {},.op {},.op {},.op {},.op {},.op {},.op {},.op {},.op {}] fun all hall _ Z=>?_;have ga3:aQ all 3=some 20:=hall 3;refine iK 4 fun _ Y=>?_;simp(disch:=omega)[aC,aB,eV,ga3];and_intros<;>(try omega);apply Y;refine zbD 20 ?_ ?_<;>intro g2<;>try simp at g2
  .refine iK 8 fun _ Y=>?_;simp(disch:=omega)[aC,aB,eV,ga3];and_intros<;>(try omega);apply Y;simp(disch:=omega)[aC,aB,eV,ga3];apply Z;refine zk [0,3,4,5,7,8,11,12,13] ?_;refine oL q41_1 fun all hall _ Z=>?_;have ga1:aQ all 1=some 33:=hall 1;have ga4:aQ all 4=some 36:=hall 4;refine zs 2 fun _ Y=>?_;simp(disch:=omega)[aC,aB,eV,ga1,ga4];apply Y;refine zs 3 fun _ Y=>?_;simp(disch:=omega)[aC,aB,eV,ga1,ga4];apply Y;refine zb 36 ?_ ?_<;>intro g3<;>try simp at g3
   .simp(disch:=omega)[aC,aB,eV,ga1,ga4];apply Z;refine aY (t:=true) (by simp) (fun _=>?_) (fun h=>by cases h);refine zk [0,3,4,5,7,8,11,12,13] ?_;refine zr q41_1 fun _ _ Z=>?_;simp(disch:=omega)[aC,aB,eV];apply Z;refine zt q41_1 fun _ _ Z=>?_;simp(disch:=omega)[aC,aB,eV];apply Z;apply zB;refine zt q41_1 fun _ _ Z=>?_;simp(disch:=omega)[aC,aB,eV];and_intros<;>(try omega);apply Z;first | have hcn:=sQ (k:=k) c1 (by first | (rw [show k=0 from g2];rfl) | (rw [qS g2 hk];exact g5)) (by first | exact .inl (by rw [g3];rfl) | exact .inl (by rw [g6];rfl) | exact .inr c4 | exact .inr c7) | have hcn:=sM (k:=k) c1 (by first | exact g3 | exact g6) (by first | exact c4 | exact c7) | have hcn:=sR (k:=k) c1 (by rw [qS g2 hk];exact g5)
    refine cQ (j+1) ?_ ?_ (aU rfl ?_ (by simp [tI,hcn]) (by simp))
    .omega
    .try dsimp only
     omega
    simp(disch:=omega)[aC,aB,eV,hcn]
   simp(disch:=omega)[aC,aB,eV,ga1,ga4];apply Z;refine zI ?_ ?_<;>intro c4<;>try simp at c4
   .refine zk [0,3,4,5,7,8,11,12,13] ?_;refine zr q41_1 fun _ _ Z=>?_;simp(disch:=omega)[aC,aB,eV];apply Z;refine zt q41_1 fun _ _ Z=>?_;simp(disch:=omega)[aC,aB,eV];apply Z;apply zB;refine zt q41_1 fun _ _ Z=>?_;simp(disch:=omega)[aC,aB,eV];and_intros<;>(try omega);apply Z;first | have hcn:=sQ (k:=k) c1 (by first | (rw [show k=0 from g2];rfl) | (rw [qS g2 hk];exact g5)) (by first | exact .inl (by rw [g3];rfl) | exact .inl (by rw [g6];rfl) | exact .inr c4 | exact .inr c7) | have hcn:=sM (k:=k) c1 (by first | exact g3 | exact g6) (by first | exact c4 | exact c7) | have hcn:=sR (k:=k) c1 (by rw [qS g2 hk];exact g5)
    refine cQ (j+1) ?_ ?_ (aU rfl ?_ (by simp [tI,hcn]) (by simp))
    .omega
    .try dsimp only
     omega
    simp(disch:=omega)[aC,aB,eV,hcn]
   apply lP;refine zk [0,3,4,5,8,11,12,13] ?_;refine zt q41_1 fun _ _ Z=>?_;simp(disch:=omega)[aC,aB,eV];and_intros<;>(try omega);apply Z;first | have hcn:=sQ (k:=k) c1 (by first | (rw [show k=0 from g2];rfl) | (rw [qS g2 hk];exact g5)) (by first | exact .inl (by rw [g3];rfl) | exact .inl (by rw [g6];rfl) | exact .inr c4 | exact .inr c7) | have hcn:=sM (k:=k) c1 (by first | exact g3 | exact g6) (by first | exact c4 | exact c7) | have hcn:=sR (k:=k) c1 (by rw [qS g2 hk];exact g5)
   refine cQ (j+1) ?_ ?_ (aU rfl ?_ (by simp [tI,hcn]) (by simp))
   .omega
   .try dsimp only
    omega
   simp(disch:=omega)[aC,aB,eV,hcn]
  refine iK 8 fun _ Y=>?_;simp(disch:=omega)[aC,aB,eV,ga3];and_intros<;>(try omega);apply Y;simp(disch:=omega)[aC,aB,eV,ga3];apply Z;refine zk [0,3,4,5,7,8,11,12,13] ?_;refine oL q41_1 fun all hall _ Z=>?_;have ga1:aQ all 1=some 33:=hall 1;have ga4:aQ all 4=some 36:=hall 4;refine zs 2 fun _ Y=>?_;simp(disch:=omega)[aC,aB,eV,ga1,ga4];apply Y;refine zb 33 ?_ ?_<;>intro g5<;>try simp at g5
  .refine zs 3 fun _ Y=>?_;simp(disch:=omega)[aC,aB,eV,ga1,ga4];apply Y;refine zb 36 ?_ ?_<;>intro g6<;>try simp at g6
   .simp(disch:=omega)[aC,aB,eV,ga1,ga4];apply Z;refine aY (t:=true) (by simp) (fun _=>?_) (fun h=>by cases h);refine zk [0,3,4,5,7,8,11,12,13] ?_;refine zr q41_1 fun _ _ Z=>?_;simp(disch:=omega)[aC,aB,eV];apply Z;refine zt q41_1 fun _ _ Z=>?_;simp(disch:=omega)[aC,aB,eV];apply Z;apply zB;refine zt q41_1 fun _ _ Z=>?_;simp(disch:=omega)[aC,aB,eV];and_intros<;>(try omega);apply Z;first | have hcn:=sQ (k:=k) c1 (by first | (rw [show k=0 from g2];rfl) | (rw [qS g2 hk];exact g5)) (by first | exact .inl (by rw [g3];rfl) | exact .inl (by rw [g6];rfl) | exact .inr c4 | exact .inr c7) | have hcn:=sM (k:=k) c1 (by first | exact g3 | exact g6) (by first | exact c4 | exact c7) | have hcn:=sR (k:=k) c1 (by rw [qS g2 hk];exact g5)
    refine cQ (j+1) ?_ ?_ (aU rfl ?_ (by simp [tI,hcn]) (by simp))
    .omega
    .try dsimp only
     omega
    simp(disch:=omega)[aC,aB,eV,hcn]
   simp(disch:=omega)[aC,aB,eV,ga1,ga4];apply Z;refine zI ?_ ?_<;>intro c7<;>try simp at c7
   .refine zk [0,3,4,5,7,8,11,12,13] ?_;refine zr q41_1 fun _ _ Z=>?_;simp(disch:=omega)[aC,aB,eV];apply Z;refine zt q41_1 fun _ _ Z=>?_;simp(disch:=omega)[aC,aB,eV];apply Z;apply zB;refine zt q41_1 fun _ _ Z=>?_;simp(disch:=omega)[aC,aB,eV];and_intros<;>(try omega);apply Z;first | have hcn:=sQ (k:=k) c1 (by first | (rw [show k=0 from g2];rfl) | (rw [qS g2 hk];exact g5)) (by first | exact .inl (by rw [g3];rfl) | exact .inl (by rw [g6];rfl) | exact .inr c4 | exact .inr c7) | have hcn:=sM (k:=k) c1 (by first | exact g3 | exact g6) (by first | exact c4 | exact c7) | have hcn:=sR (k:=k) c1 (by rw [qS g2 hk];exact g5)
    refine cQ (j+1) ?_ ?_ (aU rfl ?_ (by simp [tI,hcn]) (by simp))
    .omega
    .try dsimp only
     omega
    simp(disch:=omega)[aC,aB,eV,hcn]
   apply lP;refine zk [0,3,4,5,8,11,12,13] ?_;refine zt q41_1 fun _ _ Z=>?_;simp(disch:=omega)[aC,aB,eV];and_intros<;>(try omega);apply Z;first | have hcn:=sQ (k:=k) c1 (by first | (rw [show k=0 from g2];rfl) | (rw [qS g2 hk];exact g5)) (by first | exact .inl (by rw [g3];rfl) | exact .inl (by rw [g6];rfl) | exact .inr c4 | exact .inr c7) | have hcn:=sM (k:=k) c1 (by first | exact g3 | exact g6) (by first | exact c4 | exact c7) | have hcn:=sR (k:=k) c1 (by rw [qS g2 hk];exact g5)
   refine cQ (j+1) ?_ ?_ (aU rfl ?_ (by simp [tI,hcn]) (by simp))
   .omega
   .try dsimp only
    omega
   simp(disch:=omega)[aC,aB,eV,hcn]
  refine zs 8 fun _ Y=>?_;simp(disch:=omega)[aC,aB,eV,ga1,ga4];and_intros<;>(try omega);apply Y;simp(disch:=omega)[aC,aB,eV,ga1,ga4];apply Z;refine aY (t:=false) (by simp) (fun h=>by cases h) (fun _=>?_);apply lP;refine zk [0,3,4,5,8,11,12,13] ?_;refine zt q41_1 fun _ _ Z=>?_;simp(disch:=omega)[aC,aB,eV];and_intros<;>(try omega);apply Z;first | have hcn:=sQ (k:=k) c1 (by first | (rw [show k=0 from g2];rfl) | (rw [qS g2 hk];exact g5)) (by first | exact .inl (by rw [g3];rfl) | exact .inl (by rw [g6];rfl) | exact .inr c4 | exact .inr c7) | have hcn:=sM (k:=k) c1 (by first | exact g3 | exact g6) (by first | exact c4 | exact c7) | have hcn:=sR (k:=k) c1 (by rw [qS g2 hk];exact g5)
  refine cQ (j+1) ?_ ?_ (aU rfl ?_ (by simp [tI,hcn]) (by simp))
  .omega
  .try dsimp only
   omega
  simp(disch:=omega)[aC,aB,eV,hcn]
 obtain rfl:j=l.length:=by omega
 have hce:=aJh hk;apply zE;apply aF;refine zr q41_1 fun _ _ Z=>?_;simp(disch:=omega)[aC,aB,eV];apply Z;refine zI ?_ ?_<;>intro c8<;>try simp at c8
 .refine zr q41_1 fun _ _ Z=>?_;simp(disch:=omega)[aC,aB,eV];apply Z;apply aE;simp [aP];rw [hce] at c8;rw [bZ (by simpa using List.getElem?_eq_none_iff.1 c8)]
 have hk2:k<(jD nP l).length:=by
   rcases lS k (jD nP l).length with h | h
   .exact h
   rw [hce,gS h] at c8;exact absurd c8 (by simp)
 have hcd:tI l k l.length=(jD nP l)[k]:=by unfold tI;rw [hce,aS hk2];rfl
 have htk:List.take (k+1) (List.map bY (jD nP l))=List.take k (List.map bY (jD nP l))++ [bY (jD nP l)[k]]:=by rw [bB _ k (by simpa using hk2),List.getElem_map]
 apply zA;refine zt q41_1 fun _ _ Z=>?_;simp(disch:=omega)[aC,aB,eV];and_intros<;>(try omega);apply Z;apply iV;refine zq (k+1) ?_ ?_ ?_
 .omega
 .try dsimp only
  omega
 simp(disch:=omega)[aC,aB,eV,hcd,htk]
theorem yH :kM nP l c=true↔∃j,∃h:j<l.length,l[j].name=c:=by
 unfold kM;rw [nC];constructor
 .rintro⟨x,hx,e⟩;obtain⟨j,hj,rfl⟩:=oT hx;exact⟨j,hj,by simpa using e⟩
 rintro⟨j,hj,e⟩;exact⟨l[j],bS hj,by simpa using e⟩
theorem Sx (hh:∀j (h:j<l.length),k<=j->l[j].name≠c) {hk:k - 1<l.length} (c2:¬l[k - 1].name=c)(h:j<l.length)(h2:k - 1<=j):l[j].name≠c:=by
 rcases lS j k with h3 | h3
 .obtain rfl:j=k - 1:=by omega
  exact c2
 exact hh j h h3
theorem aNh (h:∀j (h:j<l.length),0<=j->l[j].name≠c):kM nP l c=false:=by
 rw [<- vH,yH];rintro⟨j,hj,e⟩;exact h j hj (cE _) e
def Pe(l:List PI)(c:ByteArray):Int:=((l.reverse.find? fun p=>decide (p.name=c)).map PI.value).getD 0
theorem Pw {α:Type} {p:α->Bool} {l:List α} (h:k<l.length)(hh:∀x∈l.take k,p x=false)(e:p l[k]=true):l.find? p=some l[k]:=by
 rw [List.find?_eq_some_iff_getElem];refine⟨e,k,h,rfl,fun j hj=>?_⟩;have:=hh (l[j]'(by omega)) (by rw [Jq];exact⟨j,by omega,rfl⟩);simp [this]
theorem Yl {α:Type} {p:α->Bool} {l:List α} (hh:∀x∈l,p x=false):l.find? p=none:=by
 rw [Br];intro x hx;simp [hh x hx]
theorem Vg (h:k<l.length)(hh:∀j (h:j<l.length),k+1<=j->l[j].name≠c)(e:l[k].name=c):Pe l c=l[k].value:=by
 unfold Pe;rw [Pw (l:=l.reverse) (k:=l.length - 1 - k) (by simp;omega) ?_ ?_]
 .simp only [fA,gU,Bz];congr 2;omega
 .intro x hx;rw [Jq] at hx;obtain⟨j,hj,rfl⟩:=hx;simp only [Bz,decide_eq_false_iff_not];exact hh _ _ (by simp at hj;omega)
 simp only [Bz,iS];rw [<- e];congr 2;omega
theorem Ph (hh:∀j (h:j<l.length),l[j].name≠c):Pe l c=0:=by
 unfold Pe;rw [Yl]
 .rfl
 intro x hx;rw [List.mem_reverse] at hx;obtain⟨j,hj,rfl⟩:=oT hx;simpa using hh j hj
theorem Ms(l:List PI)(c:ByteArray)(σ:List (List D))(hl:l.length<=99999):Ct prog 70 [.sl false (l.map bY),D.str c] σ (fun r σ'=>r= .tup [.int (Pe l c),.bool (kM nP l c)]/\σ'=σ):=by
 refine zf func70 ?_;refine bT fun _ _ Z=>?_;simp(disch:=omega)[nG];apply Z;apply aF;refine bT fun _ _ Z=>?_;simp(disch:=omega)[nG];and_intros<;>(try omega);apply Z;apply aN;refine zk [0,1,4,5,6] ?_;refine bA (fun(k:Nat)=> [(6,.d (.int ((k:Int) - 1)))]) [4,5,6,10,11,12,13,14,15,16,17,18,19,20,21,22,23,24,25] (fun(k:Nat)=>k<=l.length/\∀j (h:j<l.length),k<=j->l[j].name≠c) (fun(k:Nat)=>k) (l.length) (by simp <;> rfl) ?_ ?_ ?_
 .simp
 .exact⟨bG _,fun j h h2=>by omega⟩
 rintro k ⟨hk,hh⟩;simp only [aM,aK];have htn:1<=k->((k:Int) - 1).toNat=k - 1:=fun h=>by omega
 apply aF;refine bT fun _ _ Z=>?_;simp(disch:=omega)[nG];apply Z;refine zI ?_ ?_<;>intro c1<;>try simp at c1
 .have hk1:1<=k:=by omega
  have htn1:=htn hk1;apply kL;refine bT fun _ _ Z=>?_;simp(disch:=omega)[nG];and_intros<;>(try omega);apply Z;refine zI ?_ ?_<;>intro c2<;>try simp at c2
  .refine zk [0,1,6] ?_;refine bT fun _ _ Z=>?_;simp(disch:=omega)[nG];and_intros<;>(try omega);apply Z;apply aE;have e:=Vg (l:=l) (k:=k - 1) (by omega) (fun j h h2=>hh j h (by omega)) c2;have e2:kM nP l c=true:=yH.2 ⟨k - 1,by omega,c2⟩;simp [aP,e,e2]
  apply lP;refine zk [0,1,6] ?_;refine tD fun _ _ Z=>?_;simp(disch:=omega)[nG];and_intros<;>(try omega);apply Z;refine zq (k - 1) ?_ ?_ ?_
  .exact⟨by omega,fun j h h2=>Sx hh c2 h h2⟩
  .try dsimp only
   omega
  simp [jG];omega
 apply zE;refine bT fun _ _ Z=>?_;simp(disch:=omega)[nG];apply Z;apply aE;have e:=Ph (l:=l) (c:=c) fun j h=>hh j h (by omega);have e2:=aNh (fun j h _=>hh j h (by omega));simp [aP,e,e2]
end Go.Proofs.YtbdjepeabjangaaGreat
namespace Go.Vm
open Go
variable {rr:Option Nat} {dfr:List Deferred}
theorem Ok.freezeB {w:World} {g:Gh} {st:St} {val:Nat->Value} (h:Ok w g st val)(n i N len cap k:Nat)(cs ds es:List D)(hn:st.loc[n]?=some cs)(hi:cs[i]?=some (.slo N 0 len cap))(hN:st.obj[N]?=some ds)(hk:0<k)(hcs:ds.length=cap * k)(hl:es.length=len)
  (hes:∀d∈es,d.ncells=k/\d.arr=true) (he:es.flatMap D.cells<+:ds):
  ∃g':Gh,g'.bl=g.bl/\Fr w g w g'/\Ok w g' { st with loc:=st.loc.set n (cs.set i (.sl false es)),obj:=st.obj.set N [] } val:=by
 have hnl:=(aJ.1 hn).1;have hNl:=(aJ.1 hN).1;obtain⟨bn,hbn⟩:∃bn,g.bl[n]?=some bn:=⟨_,aS (by rw [h.ll];exact hnl)⟩;obtain⟨b,hbN⟩:∃b,g.bs[N]?=some b:=⟨_,aS (by rw [h.ol];exact hNl)⟩;have hne:cs≠ []:=by rintro rfl;simp at hi
 obtain⟨curn,En,m1,m2,m3,m4,m5⟩:=(h.loc n bn cs hbn hn).resolve_left hne;have hil:=(aJ.1 hi).1;obtain⟨v,hvi⟩:∃v,curn[i]?=some v:=⟨_,aZ (by rw [m2];exact hil)⟩;obtain⟨hr,_,hone⟩:=m5 i _ v hi hvi;have hlen:∀d∈es,d.cells.length=k:=fun d hd=>by rw [dP];exact(hes d hd).1
 -- what is known for good
 obtain⟨M',t1,t2,t3,t4⟩:∃M':Mem,g.M.le M'/\(∀(b':Nat) (t:kN),g.X b'=some t->t.1≠ .obj N->∀o,g.M b' o=none->M' b' o=none)/\(∀(b' o:Nat) (c:Value),M' b' o=some c->w.cell? ⟨b',o,none⟩=some c)/\
   (R M' g.bs (.sl false es) v/\∀(b':Nat),g.X b'=none->∀o,M' b' o=g.M b' o):=by
  cases hr with
  | slo _ _ _ _ x hb hc hmx=>
  by_cases hes0:es= []
  .subst hes0;have hl0:len=0:=by simpa using hl.symm
   subst hl0;refine⟨g.M,fun _ _ _ h=>h,fun _ _ _ _ _ h=>h,h.mem,?_,fun _ _ _=>rfl⟩;cases x with
   | some a=>exact .emp _ a cap hmx
   | none=>
    rcases vP cap with hc0 | hc0
    .subst hc0;exact .nil _
    obtain⟨_,_,e⟩:=hb hc0;cases e
  have hcap0:0<cap:=by
   have:0<es.length:=List.length_pos_iff.2 hes0;omega
  obtain⟨b',hb2,rfl⟩:=hb hcap0;have ebb:b'=b:=by rw [hbN] at hb2;simpa using hb2.symm
  subst ebb;have hdne:ds≠ []:=by
   intro e;rw [e] at hcs;have:0<cap * k:=nR hcap0 hk;simp at hcs;omega
  obtain⟨cur,E,o1,o2,o3,o4,o5⟩:=(h.obj N b' ds hb2 hN).resolve_left hdne;have hfit:∀i,i<es.length->i * k+k<=es.length * k:=fun i hi=>by
   have:(i+1) * k<=es.length * k:=eS _ hi;rw [cK] at this;omega
  have hcap:es.length * k<=cur.size:=by rw [o2,hcs];exact eS _ (by omega)
  have o9:∀(o:Nat) (c:Value),cur[o]?=some c->c.oneCell'=true:=fun o c ho=>by
   have hlt:=(dH.1 ho).1;rw [o2] at hlt;exact(o5 o _ c (aS hlt) ho).2.2
  have hle:g.M.le (fun b2 o=>if b2=b' then(if o<es.length * k then cur[o]? else none)else g.M b2 o):=fun b2 o c hc=>by
   by_cases e:b2=b'
   .subst e;rw [o4] at hc;cases hc
   simp only [aH e];exact hc
  refine⟨fun b2 o=>if b2=b' then(if o<es.length * k then cur[o]? else none)else g.M b2 o,hle,fun b2 t hx ht o ho=>?_,fun b2 o c hc=>?_,?_,fun b2 hx o=>?_⟩
  .have:b2≠b':=by intro e;subst e;rw [o3] at hx;simp only [aV] at hx;subst hx;exact ht rfl
   simp only [aH this];exact ho
  .by_cases e:b2=b'
   .subst e;simp only [aO] at hc;split at hc
    .rw [cell_of_row w b2 o cur E (0,0) o1];exact hc
    cases hc
   simp only [aH e] at hc;exact h.mem b2 o c hc
  .have el:∀(i:Nat) (d:D),es[i]?=some d->R (fun b2 o=>if b2=b' then(if o<es.length * k then cur[o]? else none)else g.M b2 o) g.bs d (Gf cur k i d)/\(Gf cur k i d).cells.size=k/\∀(j:Nat) (c:Value),(Gf cur k i d).cells[j]?=some c->j<k/\cur[i * k+j]?=some c:=by
    intro i d hi;have hil:=(aJ.1 hi).1;have:=hfit i hil;obtain⟨r1,r2,r3⟩:=Rs (M:=g.M) (bs:=g.bs) (cur:=cur) (i:=i) (hes d (aW hi)).1 (hes d (aW hi)).2 (by omega) o9 (fun j e hj=>by
     have hcell:=yQ hk es hlen hi hj;obtain⟨rest,hrest⟩:=he;have hcc:ds[i * k+j]?=some e:=by
      rw [<- hrest,aX (by exact(aJ.1 hcell).1)];exact hcell
     have hlt:=(aJ.1 hcc).1;rw [<- o2] at hlt;exact⟨_,aZ hlt,(o5 _ e _ hcc (aZ hlt)).1⟩) hk
    exact⟨r1.mono hle (fun _ _ h=>h),r2,r3⟩
   have hvs:∀(i:Nat) (x:Value),(es.mapIdx fun i d=>Gf cur k i d)[i]?=some x->∃d,es[i]?=some d/\x=Gf cur k i d:=by
    intro i x hi;rw [List.getElem?_mapIdx,dG] at hi;obtain⟨d,h1,h2⟩:=hi;exact⟨d,h1,h2.symm⟩
   refine .sl false es b' 0 _ cap k (es.mapIdx fun i d=>Gf cur k i d) (by simp) hl.symm hk (by omega) hmx (fun i d x a1 a2=>?_) (fun i d hi=>(hes d (aW hi)).1) (fun i x a2=>?_)
   .obtain⟨d',h1,rfl⟩:=hvs i x a2;rw [a1] at h1;have:d=d':=by simpa using h1
    subst this;exact(el i d a1).1
   obtain⟨d',h1,rfl⟩:=hvs i x a2;obtain⟨r1,r2,r3⟩:=el i d' h1;refine⟨r2,fun j c hj=>?_⟩;obtain⟨hj1,hj2⟩:=r3 j c hj;have:=hfit i (aJ.1 h1).1;refine⟨o9 _ c hj2,?_⟩;simp only [aO,eA];rw [aR (by omega)];exact hj2
  have:b2≠b':=by intro e;subst e;rw [o3] at hx;cases hx
  simp only [aH this]
 have other:∀(hd:Holder),hd≠ .obj N->∀(b':Nat) (q:List Nat),g.X b'=some (hd,q)->w.heap[b']?=w.heap[b']?/\(∀o,g.M b' o=none->M' b' o=none)/\g.X b'=some (hd,q):=
  fun hd hne b' q hx=>⟨rfl,t2 b' _ hx hne,hx⟩
 refine⟨{ g with M:=M' },rfl,⟨rfl,rfl,rfl,bG _,fun b' hb' hx=>⟨rfl,hx,t4.2 b' hx⟩,t1,fun _ _ h=>h⟩,t3,h.xlt,fun u=>?_,by simp [h.ll],fun n' b' cs' h1 h2=>?_,by simp [h.ol],fun n' b' cs' h1 h2=>?_⟩
 .exact(h.slot u).keep t1 (fun _ _ h=>h) (fun _ _ h=>h) (other _ (by simp))
 .rw [cF] at h2;split at h2
  .rename_i e;subst e;have h2':cs.set i (.sl false es)=cs':=by simpa [hnl] using h2
   subst h2';have ebm:b'=bn:=by rw [hbn] at h1;simpa using h1.symm
   subst ebm;refine .inr ⟨curn,En,m1,by simpa using m2,m3,fun o=>t2 _ _ m3 (by simp) o (m4 o),fun j d x a1 a2=>?_⟩;rw [cF] at a1;split at a1
   .rename_i e;subst e;have hd:D.sl false es=d:=by first | (simpa [hil] using a1) | exact a1
    subst hd;have hx:x=v:=by rw [hvi] at a2;simpa using a2.symm
    subst hx;exact⟨t4.1,.flat _ _ _ rfl,hone⟩
   obtain⟨r1,r2,r3⟩:=m5 j d x a1 a2;exact⟨r1.mono t1 (fun _ _ h=>h),r2.keep t1 (fun _ _ h=>h) (other _ (by simp)),r3⟩
  exact(h.loc n' b' cs' h1 h2).keep t1 (fun _ _ h=>h) (other _ (by simp))
 rw [cF] at h2;split at h2
 .exact .inl (by simpa [hNl] using h2.symm)
 rename_i e;exact(h.obj n' b' cs' h1 h2).keep t1 (fun _ _ h=>h) (other _ (by simp;exact fun e'=>e e'.symm))
theorem Cg {P:Program} (i0 i N len cap k:Nat)(cs ds es:List D) {c:Code} {n:Nat} {l:List (Nat×Slot)} {loc obj:List (List D)} {Q:Exit->St->Prop} (hn:loc[i0]?=some cs)(hi:cs[i]?=some (.slo N 0 len cap))(hN:obj[N]?=some ds)(hk:0<k)(hcs:ds.length=cap * k)(hl:es.length=len)
  (hes:∀d∈es,d.ncells=k/\d.arr=true) (he:es.flatMap D.cells<+:ds) (h:dQ rr dfr P c Q (St.mk' n l (loc.set i0 (cs.set i (.sl false es))) (obj.set N []))):dQ rr dfr P c Q (St.mk' n l loc obj):=by
 intro w0 g0 w g tmps hf hok hn0;obtain⟨g',_,hfr,hok'⟩:=hok.freezeB i0 i N len cap k cs ds es hn hi hN hk hcs hl hes he;exact h w0 g0 w g' tmps (hf.trans hfr) hok' hn0
end Go.Vm
namespace Go.Proofs.YtbdjepeabjangaaGreat
open Go Go.Vm
structure OPT where
 enter:Int
 leave:Int
 move:Int
 mode:Int
 appear:Bool
 moves:Bool
 deriving DecidableEq
@[simp] abbrev aPu(s:OPT):D:= .agg [.v (.int .i64 s.enter),.v (.int .i64 s.leave),.v (.int .i64 s.move),.v (.int .i64 s.mode),.v (.bool s.appear),.v (.bool s.moves)]
structure FL where
 deep:Int
 kind:Int
 tag:ByteArray
 key:ByteArray
 text:ByteArray
 classes:(List ByteArray)
 attrs:(List AT)
 styles:(List PI)
 opts:OPT
 deriving DecidableEq
@[simp] abbrev Cx(s:FL):D:= .agg [.v (.int .i64 s.deep),.v (.int .i64 s.kind),.v (.string s.tag),.v (.string s.key),.v (.string s.text),.sl false (s.classes.map D.str),.sl false (s.attrs.map cH),.sl false (s.styles.map bY),.v (.int .i64 s.opts.enter),.v (.int .i64 s.opts.leave),.v (.int .i64 s.opts.move),.v (.int .i64 s.opts.mode),.v (.bool s.opts.appear),.v (.bool s.opts.moves)]
@[simp] abbrev aU1(s:FL):D:= .agg [.v (.int .i64 s.deep),.v (.int .i64 s.kind),.v (.string s.tag),.v (.string s.key),.v (.string s.text),.sl true (s.classes.map D.str),.sl true (s.attrs.map cH),.sl true (s.styles.map bY),.v (.int .i64 s.opts.enter),.v (.int .i64 s.opts.leave),.v (.int .i64 s.opts.move),.v (.int .i64 s.opts.mode),.v (.bool s.opts.appear),.v (.bool s.opts.moves)]
structure VN where
 kind:Int
 tag:ByteArray
 key:ByteArray
 text:ByteArray
 classes:(List ByteArray)
 attrs:(List AT)
 styles:(List PI)
 opts:OPT
 kids:(List VN)
def jO(s:VN):D:= .agg [.v (.int .i64 s.kind),.v (.string s.tag),.v (.string s.key),.v (.string s.text),.sl false (s.classes.map D.str),.sl false (s.attrs.map cH),.sl false (s.styles.map bY),.v (.int .i64 s.opts.enter),.v (.int .i64 s.opts.leave),.v (.int .i64 s.opts.move),.v (.int .i64 s.opts.mode),.v (.bool s.opts.appear),.v (.bool s.opts.moves),.sl false (s.kids.attach.map fun k=>jO k.1)]
termination_by SizeOf.sizeOf s
decreasing_by
 have h:=iQ k.2;cases s;simp at h |-;omega
@[simp] abbrev jN(s:VN):D:= .agg [.v (.int .i64 s.kind),.v (.string s.tag),.v (.string s.key),.v (.string s.text),.sl false (s.classes.map D.str),.sl false (s.attrs.map cH),.sl false (s.styles.map bY),.v (.int .i64 s.opts.enter),.v (.int .i64 s.opts.leave),.v (.int .i64 s.opts.move),.v (.int .i64 s.opts.mode),.v (.bool s.opts.appear),.v (.bool s.opts.moves),.sl false (s.kids.map jO)]
@[simp] abbrev aVc(s:VN):D:= .agg [.v (.int .i64 s.kind),.v (.string s.tag),.v (.string s.key),.v (.string s.text),.sl true (s.classes.map D.str),.sl true (s.attrs.map cH),.sl true (s.styles.map bY),.v (.int .i64 s.opts.enter),.v (.int .i64 s.opts.leave),.v (.int .i64 s.opts.move),.v (.int .i64 s.opts.mode),.v (.bool s.opts.appear),.v (.bool s.opts.moves),.sl true (s.kids.map jO)]
@[simp] theorem Kk(s:VN):jO s=jN s:=by rw [jO];simp
def Bb(l:Ls)(n:Nat):Ls:=(l.take n).map (qY 20)
def aSf(p:PI):PI:=⟨qY 20 p.name,p.value⟩
def aSz(p:AT):AT:=⟨qY 20 p.name,qY 40 p.value⟩
def Bw(l:List PI)(n:Nat):List PI:=(l.take n).map aSf
def Dx(l:List AT)(n:Nat):List AT:=(l.take n).map aSz
theorem aAd(l:List ByteArray)(k:Nat)(h:k<l.length):Bb l (k+1)=Bb l k++ [qY 20 l[k]]:=by
 unfold Bb;rw [bB l k h,cX];rfl
theorem aM0(l:List ByteArray):Bb l 0= []:=rfl
theorem Pv(l:List ByteArray)(n:Nat):(Bb l n).length<=n:=by simp [Bb];omega
theorem aDm(l:List ByteArray)(k n:Nat)(h:l.length<=k)(hn:k<=n):Bb l k=Bb l n:=by
 unfold Bb;rw [bZ h,bZ (cZ h hn)]
theorem aBk(l:List PI)(k:Nat)(h:k<l.length):Bw l (k+1)=Bw l k++ [⟨qY 20 l[k].name,l[k].value⟩]:=by
 unfold Bw;rw [bB l k h,cX];rfl
theorem aOz(l:List PI):Bw l 0= []:=rfl
theorem Pf(l:List PI)(n:Nat):(Bw l n).length<=n:=by simp [Bw];omega
theorem aGl(l:List PI)(k n:Nat)(h:l.length<=k)(hn:k<=n):Bw l k=Bw l n:=by
 unfold Bw;rw [bZ h,bZ (cZ h hn)]
theorem aAt(l:List AT)(k:Nat)(h:k<l.length):Dx l (k+1)=Dx l k++ [⟨qY 20 l[k].name,qY 40 l[k].value⟩]:=by
 unfold Dx;rw [bB l k h,cX];rfl
theorem aN6(l:List AT):Dx l 0= []:=rfl
theorem Nh(l:List AT)(n:Nat):(Dx l n).length<=n:=by simp [Dx];omega
theorem aHn(l:List AT)(k n:Nat)(h:l.length<=k)(hn:k<=n):Dx l k=Dx l n:=by
 unfold Dx;rw [bZ h,bZ (cZ h hn)]
@[simp] abbrev q41_2:Cfg:=⟨[4,5,18,26],[],[],[],[]⟩
theorem aNs(l:Ls)(n:Nat)(σ:List (List D))(hl:l.length<=9223372036854775807)(hn:n<=1000000):Ct prog 73 [dl l,D.int n] σ (fun r σ'=>r= .sl true ((Bb l n).map D.str)/\σ'=σ):=by
 refine zf func73 ?_;refine zr q41_2 fun _ _ Z=>?_;simp(disch:=omega);apply Z;refine zr q41_2 fun _ _ Z=>?_;simp(disch:=omega);apply Z;apply aF;refine zr q41_2 fun _ _ Z=>?_;simp(disch:=omega);apply Z;apply aN;refine zk [0,1,4,5,6] ?_;refine bA (fun(k:Nat)=> [(6,.d (.int (k:Int))),(5,.d (.sl true ((Bb l k).map D.str)))]) [5,6,7,8,9,10,11,12,13,14,15,16,17,18,19,20,21,22,23,24,25] (fun(k:Nat)=>k<=l.length/\k<=n) (fun(k:Nat)=>l.length - k) (0) (by simp <;> rfl) ?_ ?_ ?_
 .simp [aM0]
 .simp
 rintro k ⟨hk,hn2⟩;simp only [aM,aK];have hfl:=Pv l k;apply aF;refine oL q41_2 fun all hall _ Z=>?_;have ga4:aQ all 4=some 11:=hall 4;refine zs 5 fun _ Y=>?_;simp(disch:=omega)[ga4];and_intros<;>(try omega);apply Y;refine zb 11 ?_ ?_<;>intro g1<;>try simp at g1
 .simp(disch:=omega)[ga4];apply Z;refine zI ?_ ?_<;>intro c2<;>try simp at c2
  .apply kL;refine zk [0,1,4,5,6] ?_;refine zt q41_2 fun _ _ Z=>?_;refine zs 5 fun _ Y=>?_;simp(disch:=omega);and_intros<;>(try omega);apply Y;refine aG fun _ Y=>?_;simp(disch:=omega);refine dX (tN _ 20 _ (by omega)) ?_;apply Y;simp(disch:=omega);and_intros<;>(try omega);apply Z;apply zB;refine zk [0,1,4,5,6] ?_;refine zt q41_2 fun _ _ Z=>?_;simp(disch:=omega);and_intros<;>(try omega);apply Z;refine zq (k+1) ?_ ?_ ?_
   .omega
   .try dsimp only
    omega
   simp(disch:=omega)[aAd]
  apply zE;refine zk [4,5] ?_;refine zr q41_2 fun _ _ Z=>?_;simp(disch:=omega);apply Z;apply aE;simp [aP];rw [show k=n by omega]
 simp(disch:=omega)[ga4];apply Z;refine aY (t:=false) (by simp) (fun h=>by cases h) (fun _=>?_);apply zE;refine zk [4,5] ?_;refine zr q41_2 fun _ _ Z=>?_;simp(disch:=omega);apply Z;apply aE;simp [aP];rw [aDm l k n (by omega) (by omega)]
@[simp] abbrev q41_3:Cfg:=⟨[4,5,18,33],[],[],[],[]⟩
theorem aIh(l:List PI)(n:Nat)(σ:List (List D))(hl:l.length<=9223372036854775807)(hn:n<=1000000):Ct prog 74 [.sl false (l.map bY),D.int n] σ (fun r σ'=>r= .sl true ((Bw l n).map bY)/\σ'=σ):=by
 refine zf func74 ?_;refine zr q41_3 fun _ _ Z=>?_;simp(disch:=omega);apply Z;refine zr q41_3 fun _ _ Z=>?_;simp(disch:=omega);apply Z;apply aF;refine zr q41_3 fun _ _ Z=>?_;simp(disch:=omega);apply Z;apply aN;refine zk [0,1,4,5,6] ?_;refine bA (fun(k:Nat)=> [(6,.d (.int (k:Int))),(5,.d (.sl true ((Bw l k).map bY)))]) [5,6,7,8,9,10,11,12,13,14,15,16,17,18,19,20,21,22,23,24,25,26,27,28,29,30,31,32] (fun(k:Nat)=>k<=l.length/\k<=n) (fun(k:Nat)=>l.length - k) (0) (by simp <;> rfl) ?_ ?_ ?_
 .simp [aOz]
 .simp
 rintro k ⟨hk,hn2⟩;simp only [aM,aK];have hfl:=Pf l k;apply aF;refine oL q41_3 fun all hall _ Z=>?_;have ga4:aQ all 4=some 11:=hall 4;refine zs 5 fun _ Y=>?_;simp(disch:=omega)[ga4];and_intros<;>(try omega);apply Y;refine zb 11 ?_ ?_<;>intro g1<;>try simp at g1
 .simp(disch:=omega)[ga4];apply Z;refine zI ?_ ?_<;>intro c2<;>try simp at c2
  .apply kL;refine zk [0,1,4,5,6] ?_;refine ze q41_3 [.op {},.op {},.op {},.op {},.op {},.op {},.pure,.op {},.op {},.op {},.op {},.op {},.op {},.op {},.op {},.op {}] fun all hall _ Z=>?_;refine iK 6 fun _ Y=>?_;simp(disch:=omega);and_intros<;>(try omega);apply Y;refine bJ fun _ Y=>?_;simp(disch:=omega);refine pH (fun _=>(tN _ 20 _ (by omega))) ?_;apply Y;refine iK 8 fun _ Y=>?_;simp(disch:=omega);and_intros<;>(try omega);apply Y;simp(disch:=omega);apply Z;apply zB;refine zk [0,1,4,5,6] ?_;refine zt q41_3 fun _ _ Z=>?_;simp(disch:=omega);and_intros<;>(try omega);apply Z;refine zq (k+1) ?_ ?_ ?_
   .omega
   .try dsimp only
    omega
   simp(disch:=omega)[aBk]
  apply zE;refine zk [4,5] ?_;refine zr q41_3 fun _ _ Z=>?_;simp(disch:=omega);apply Z;apply aE;simp [aP];rw [show k=n by omega]
 simp(disch:=omega)[ga4];apply Z;refine aY (t:=false) (by simp) (fun h=>by cases h) (fun _=>?_);apply zE;refine zk [4,5] ?_;refine zr q41_3 fun _ _ Z=>?_;simp(disch:=omega);apply Z;apply aE;simp [aP];rw [aGl l k n (by omega) (by omega)]
end Go.Proofs.YtbdjepeabjangaaGreat
