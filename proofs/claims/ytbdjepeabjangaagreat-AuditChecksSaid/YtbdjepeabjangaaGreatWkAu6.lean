import Derived.Test.YtbdjepeabjangaaGreatWkAu4
set_option linter.all false
set_option maxRecDepth 20000
set_option maxHeartbeats 8000000
open Go.Proofs.Tryz
namespace Go.Proofs.YtbdjepeabjangaaGreat
open Go Go.Vm
variable {a:List TN}{k:Nat}{α:Type}
theorem jP {a b:List α} (h:a.take k=b.take k)(ha:a.length<=k)(hb:b.length<=k):a=b:=by
 rwa [bZ ha,bZ hb] at h
theorem kT {a b:List α} (h:a.take k=b.take k)(ha:k<a.length)(hb:k<b.length)(e:a[k]=b[k]):a.take (k+1)=b.take (k+1):=by
 rw [bB a k ha,bB b k hb,h,e]
theorem lZ {a b:List α} (ha:k<a.length)(hb:k<b.length)(e:¬a[k]=b[k]):¬a=b:=fun h=>e (by subst h;rfl)
def Oh(a b:TN):Bool:=decide (a.kind=b.kind) && decide (a.tag=b.tag) && decide (a.text=b.text) && decide (a.classes=b.classes) && decide (a.attrs=b.attrs) && decide (a.styles=b.styles) && decide (a.kids.length=b.kids.length) && (a.kids.attach.zip b.kids).all fun p=>Oh p.1.1 p.2
termination_by SizeOf.sizeOf a
decreasing_by
 have h:=iQ p.1.2;cases a;simp at h |-;omega
def Kv(a b:List TN):Bool:=decide (a.length=b.length) && (a.zip b).all fun p=>Oh p.1 p.2
theorem jV(a b:TN):Oh a b=(decide (a.kind=b.kind) && decide (a.tag=b.tag) && decide (a.text=b.text) && decide (a.classes=b.classes) && decide (a.attrs=b.attrs) && decide (a.styles=b.styles) && Kv a.kids b.kids):=by
 rw [Oh,aK2 a.kids b.kids Oh];unfold Kv;simp only [Bool.and_assoc]
theorem Lo {b:List TN} (h:¬a.length=b.length):Kv a b=false:=by unfold Kv;simp [h]
theorem Pm {b:List TN} (ha:k<a.length)(hb:k<b.length)(e:Oh a[k] b[k]=false):Kv a b=false:=by
 rw [<- vH];unfold Kv;rw [fF,eT];rintro⟨-,h⟩;have h1:k<(a.zip b).length:=by rw [List.length_zip];omega
 have:=h (a.zip b)[k] (bS h1);rw [List.getElem_zip] at this;rw [e] at this;cases this
theorem Vp {b:List TN} (hl:a.length=b.length)(h:∀j (h1:j<a.length) (h2:j<b.length),Oh a[j] b[j]=true):Kv a b=true:=by
 unfold Kv;rw [fF,eT];refine⟨by simpa using hl,fun p hp=>?_⟩;obtain⟨j,hj,rfl⟩:=oT hp;rw [List.length_zip] at hj;rw [List.getElem_zip];exact h j (by omega) (by omega)
theorem Iy {b:List TN} (h:∀j (h1:j<a.length) (h2:j<b.length),j<k->Oh a[j] b[j]=true)(ha:k<a.length)(hb:k<b.length)(e:Oh a[k] b[k]=true):∀j (h1:j<a.length) (h2:j<b.length),j<k+1->Oh a[j] b[j]=true:=fun j h1 h2 h3=>by
 rcases zO.1 h3 with h4 | rfl
 .exact h j h1 h2 h4
 exact e
theorem aF4(a b:List ByteArray)(σ:List (List D))(ha:a.length<=99999)(hb:b.length<=99999):Ct prog 100 [.sl false (a.map D.str),.sl false (b.map D.str)] σ (fun r σ'=>r= .bool (decide (a=b))/\σ'=σ):=by
 refine zf func100 ?_;refine bT fun _ _ Z=>?_;simp(disch:=omega);apply Z;apply aF;refine bT fun _ _ Z=>?_;simp(disch:=omega);and_intros<;>(try omega);apply Z;refine zI ?_ ?_<;>intro c1<;>try simp at c1
 .refine bT fun _ _ Z=>?_;simp(disch:=omega);apply Z;apply aE;simp [aP];intro e;subst e;exact absurd rfl c1
 apply zA;apply aF;refine bT fun _ _ Z=>?_;simp(disch:=omega);and_intros<;>(try omega);apply Z;apply aN;refine zk [0,1,4,12,13] ?_;refine bA (fun(k:Nat)=> [(13,.d (.v (.int .i64 (k:Int)))),(5,.d (.any))]) [4,5,13,14,15,16,17,18,19,20,21,22,23,24,25] (fun(k:Nat)=>k<=a.length/\a.take k=b.take k) (fun(k:Nat)=>a.length - k) (0) (by simp <;> rfl) ?_ ?_ ?_
 .simp
 .simp
 rintro k ⟨hk,hh⟩;simp only [aM,aK];refine bT fun _ _ Z=>?_;simp(disch:=omega);apply Z;apply aF;refine zI ?_ ?_<;>intro c2<;>try simp at c2
 .apply kL;refine bT fun _ _ Z=>?_;simp(disch:=omega);apply Z;refine zd ⟨[],[],[],[],[]⟩ [.op {},.op {},.op {},.op {},.op {},.op {},.op {},.op {},.op {}] fun all hall _ Z=>?_;refine iK 8 fun _ Y=>?_;simp(disch:=omega);and_intros<;>(try omega);apply Y;simp(disch:=omega);apply Z;refine zI ?_ ?_<;>intro c3<;>try simp at c3
  .refine zk [0,1,5,12,13] ?_;refine bT fun _ _ Z=>?_;simp(disch:=omega);apply Z;apply aE;simp [aP];exact lZ (by omega) (by omega) (by simpa using c3)
  apply lP;refine zk [0,1,5,12,13] ?_;refine tD fun _ _ Z=>?_;simp(disch:=omega);and_intros<;>(try omega);apply Z;refine zq (k+1) ?_ ?_ ?_
  .exact⟨by omega,kT hh (by omega) (by omega) (by simpa using c3)⟩
  .try dsimp only
   omega
  simp(disch:=omega)
 apply zE;refine bT fun _ _ Z=>?_;simp(disch:=omega);apply Z;apply aE;simp [aP];exact jP hh (by omega) (by omega)
theorem aHa {x y:AT} (h:x.name=y.name/\x.value=y.value):x=y:=by cases x;cases y;simp_all
theorem aEe {x y:PI} (h:x.name=y.name/\x.value=y.value):x=y:=by cases x;cases y;simp_all
theorem aJm {x y:AWT} (h:x.kind=y.kind/\x.frame=y.frame):x=y:=by cases x;cases y;simp_all
theorem aNr(a b:List AT)(σ:List (List D))(ha:a.length<=99999)(hb:b.length<=99999):Ct prog 129 [.sl false (a.map cH),.sl false (b.map cH)] σ (fun r σ'=>r= .bool (decide (a=b))/\σ'=σ):=by
 refine zf func129 ?_;refine bT fun _ _ Z=>?_;simp(disch:=omega);apply Z;apply aF;refine bT fun _ _ Z=>?_;simp(disch:=omega);and_intros<;>(try omega);apply Z;refine zI ?_ ?_<;>intro c1<;>try simp at c1
 .refine bT fun _ _ Z=>?_;simp(disch:=omega);apply Z;apply aE;simp [aP];intro e;subst e;exact absurd rfl c1
 apply zA;apply aF;refine bT fun _ _ Z=>?_;simp(disch:=omega);and_intros<;>(try omega);apply Z;apply aN;refine zk [0,1,4,12,13] ?_;refine bA (fun(k:Nat)=> [(13,.d (.v (.int .i64 (k:Int)))),(5,.d (.any))]) [4,5,13,14,15,16,17,18,19,20,21,22,23,24,25] (fun(k:Nat)=>k<=a.length/\a.take k=b.take k) (fun(k:Nat)=>a.length - k) (0) (by simp <;> rfl) ?_ ?_ ?_
 .simp
 .simp
 rintro k ⟨hk,hh⟩;simp only [aM,aK];refine bT fun _ _ Z=>?_;simp(disch:=omega);apply Z;apply aF;refine zI ?_ ?_<;>intro c2<;>try simp at c2
 .apply kL;refine bT fun _ _ Z=>?_;simp(disch:=omega);apply Z;refine zd ⟨[],[],[],[],[]⟩ [.op {},.op {},.op {},.op {},.op {},.op {},.op {},.op {},.op {}] fun all hall _ Z=>?_;refine iK 8 fun _ Y=>?_;simp(disch:=omega);and_intros<;>(try omega);apply Y;simp(disch:=omega);apply Z;refine zI ?_ ?_<;>intro c3<;>try simp at c3
  .refine zk [0,1,5,12,13] ?_;refine bT fun _ _ Z=>?_;simp(disch:=omega);apply Z;apply aE;simp [aP];exact lZ (by omega) (by omega) (fun e=>by rw [e] at c3;simp at c3)
  apply lP;refine zk [0,1,5,12,13] ?_;refine tD fun _ _ Z=>?_;simp(disch:=omega);and_intros<;>(try omega);apply Z;refine zq (k+1) ?_ ?_ ?_
  .exact⟨by omega,kT hh (by omega) (by omega) (aHa (by simpa using c3))⟩
  .try dsimp only
   omega
  simp(disch:=omega)
 apply zE;refine bT fun _ _ Z=>?_;simp(disch:=omega);apply Z;apply aE;simp [aP];exact jP hh (by omega) (by omega)
theorem aOy(a b:List PI)(σ:List (List D))(ha:a.length<=99999)(hb:b.length<=99999):Ct prog 130 [.sl false (a.map bY),.sl false (b.map bY)] σ (fun r σ'=>r= .bool (decide (a=b))/\σ'=σ):=by
 refine zf func130 ?_;refine bT fun _ _ Z=>?_;simp(disch:=omega);apply Z;apply aF;refine bT fun _ _ Z=>?_;simp(disch:=omega);and_intros<;>(try omega);apply Z;refine zI ?_ ?_<;>intro c1<;>try simp at c1
 .refine bT fun _ _ Z=>?_;simp(disch:=omega);apply Z;apply aE;simp [aP];intro e;subst e;exact absurd rfl c1
 apply zA;apply aF;refine bT fun _ _ Z=>?_;simp(disch:=omega);and_intros<;>(try omega);apply Z;apply aN;refine zk [0,1,4,12,13] ?_;refine bA (fun(k:Nat)=> [(13,.d (.v (.int .i64 (k:Int)))),(5,.d (.any))]) [4,5,13,14,15,16,17,18,19,20,21,22,23,24,25] (fun(k:Nat)=>k<=a.length/\a.take k=b.take k) (fun(k:Nat)=>a.length - k) (0) (by simp <;> rfl) ?_ ?_ ?_
 .simp
 .simp
 rintro k ⟨hk,hh⟩;simp only [aM,aK];refine bT fun _ _ Z=>?_;simp(disch:=omega);apply Z;apply aF;refine zI ?_ ?_<;>intro c2<;>try simp at c2
 .apply kL;refine bT fun _ _ Z=>?_;simp(disch:=omega);apply Z;refine zd ⟨[],[],[],[],[]⟩ [.op {},.op {},.op {},.op {},.op {},.op {},.op {},.op {},.op {}] fun all hall _ Z=>?_;refine iK 8 fun _ Y=>?_;simp(disch:=omega);and_intros<;>(try omega);apply Y;simp(disch:=omega);apply Z;refine zI ?_ ?_<;>intro c3<;>try simp at c3
  .refine zk [0,1,5,12,13] ?_;refine bT fun _ _ Z=>?_;simp(disch:=omega);apply Z;apply aE;simp [aP];exact lZ (by omega) (by omega) (fun e=>by rw [e] at c3;simp at c3)
  apply lP;refine zk [0,1,5,12,13] ?_;refine tD fun _ _ Z=>?_;simp(disch:=omega);and_intros<;>(try omega);apply Z;refine zq (k+1) ?_ ?_ ?_
  .exact⟨by omega,kT hh (by omega) (by omega) (aEe (by simpa using c3))⟩
  .try dsimp only
   omega
  simp(disch:=omega)
 apply zE;refine bT fun _ _ Z=>?_;simp(disch:=omega);apply Z;apply aE;simp [aP];exact jP hh (by omega) (by omega)
theorem aNq(a b:List AWT)(σ:List (List D))(ha:a.length<=99999)(hb:b.length<=99999):Ct prog 105 [.sl false (a.map Qa),.sl false (b.map Qa)] σ (fun r σ'=>r= .bool (decide (a=b))/\σ'=σ):=by
 refine zf func105 ?_;refine bT fun _ _ Z=>?_;simp(disch:=omega);apply Z;apply aF;refine bT fun _ _ Z=>?_;simp(disch:=omega);and_intros<;>(try omega);apply Z;refine zI ?_ ?_<;>intro c1<;>try simp at c1
 .refine bT fun _ _ Z=>?_;simp(disch:=omega);apply Z;apply aE;simp [aP];intro e;subst e;exact absurd rfl c1
 apply zA;apply aF;refine bT fun _ _ Z=>?_;simp(disch:=omega);and_intros<;>(try omega);apply Z;apply aN;refine zk [0,1,4,12,13] ?_;refine bA (fun(k:Nat)=> [(13,.d (.v (.int .i64 (k:Int)))),(5,.d (.any))]) [4,5,13,14,15,16,17,18,19,20,21,22,23,24,25] (fun(k:Nat)=>k<=a.length/\a.take k=b.take k) (fun(k:Nat)=>a.length - k) (0) (by simp <;> rfl) ?_ ?_ ?_
 .simp
 .simp
 rintro k ⟨hk,hh⟩;simp only [aM,aK];refine bT fun _ _ Z=>?_;simp(disch:=omega);apply Z;apply aF;refine zI ?_ ?_<;>intro c2<;>try simp at c2
 .apply kL;refine bT fun _ _ Z=>?_;simp(disch:=omega);apply Z;refine zd ⟨[],[],[],[],[]⟩ [.op {},.op {},.op {},.op {},.op {},.op {},.op {},.op {},.op {}] fun all hall _ Z=>?_;refine iK 8 fun _ Y=>?_;simp(disch:=omega);and_intros<;>(try omega);apply Y;simp(disch:=omega);apply Z;refine zI ?_ ?_<;>intro c3<;>try simp at c3
  .refine zk [0,1,5,12,13] ?_;refine bT fun _ _ Z=>?_;simp(disch:=omega);apply Z;apply aE;simp [aP];exact lZ (by omega) (by omega) (fun e=>by rw [e] at c3;simp at c3)
  apply lP;refine zk [0,1,5,12,13] ?_;refine tD fun _ _ Z=>?_;simp(disch:=omega);and_intros<;>(try omega);apply Z;refine zq (k+1) ?_ ?_ ?_
  .exact⟨by omega,kT hh (by omega) (by omega) (aJm (by simpa using c3))⟩
  .try dsimp only
   omega
  simp(disch:=omega)
 apply zE;refine bT fun _ _ Z=>?_;simp(disch:=omega);apply Z;apply aE;simp [aP];exact jP hh (by omega) (by omega)
theorem aC8(a b:Ls)(σ:List (List D))(ha:a.length<=99999)(hb:b.length<=99999):Ct prog 93 [dl a,dl b] σ (fun r σ'=>r= .bool (decide (a=b))/\σ'=σ):=by
 refine zf func93 ?_;refine bT fun _ _ Z=>?_;simp(disch:=omega);apply Z;refine bT fun _ _ Z=>?_;refine zs 2 fun _ Y=>?_;simp(disch:=omega);apply Y;refine aG fun _ Y=>?_;simp(disch:=omega);refine dX (aF4 a b _ ha hb) ?_;apply Y;simp(disch:=omega);apply Z;apply aE;simp [aP]
theorem aHd(a b:List AT)(σ:List (List D))(ha:a.length<=99999)(hb:b.length<=99999)(hsa:eE nA a)(hsb:eE nA b):Ct prog 94 [.sl false (a.map cH),.sl false (b.map cH)] σ (fun r σ'=>r= .bool (decide (a=b))/\σ'=σ):=by
 refine zf func94 ?_;refine bT fun _ _ Z=>?_;simp(disch:=omega);apply Z;refine bT fun _ _ Z=>?_;refine zs 1 fun _ Y=>?_;simp(disch:=omega);apply Y;refine aG fun _ Y=>?_;simp(disch:=omega);refine dX (Kx a _ (by omega)) ?_;rw [sU nA hsa];apply Y;refine zs 1 fun _ Y=>?_;simp(disch:=omega);apply Y;refine aG fun _ Y=>?_;simp(disch:=omega);refine dX (Kx b _ (by omega)) ?_;rw [sU nA hsb];apply Y;refine aG fun _ Y=>?_;simp(disch:=omega);refine dX (aNr a b _ ha hb) ?_;apply Y;simp(disch:=omega);apply Z;apply aE;simp [aP]
theorem aE3(a b:List PI)(σ:List (List D))(ha:a.length<=99999)(hb:b.length<=99999)(hsa:eE nP a)(hsb:eE nP b):Ct prog 95 [.sl false (a.map bY),.sl false (b.map bY)] σ (fun r σ'=>r= .bool (decide (a=b))/\σ'=σ):=by
 refine zf func95 ?_;refine bT fun _ _ Z=>?_;simp(disch:=omega);apply Z;refine bT fun _ _ Z=>?_;refine zs 1 fun _ Y=>?_;simp(disch:=omega);apply Y;refine aG fun _ Y=>?_;simp(disch:=omega);refine dX (De a _ (by omega)) ?_;rw [sU nP hsa];apply Y;refine zs 1 fun _ Y=>?_;simp(disch:=omega);apply Y;refine aG fun _ Y=>?_;simp(disch:=omega);refine dX (De b _ (by omega)) ?_;rw [sU nP hsb];apply Y;refine aG fun _ Y=>?_;simp(disch:=omega);refine dX (aOy a b _ ha hb) ?_;apply Y;simp(disch:=omega);apply Z;apply aE;simp [aP]
abbrev aDx(a b:TN):Prop:=∀σ:List (List D),Ct prog 55 [fU a,fU b] σ (fun r σ'=>r=D.bool (Oh a b)/\σ'=σ)
abbrev aLu(a b:TN):Prop:=∀σ:List (List D),Ct prog 26 [fU a,fU b] σ (fun r σ'=>r=D.bool (Oh a b)/\σ'=σ)
theorem aMz(a b:List TN)(σ:List (List D))(ha:a.length<=99999)(hb:b.length<=99999)(ih:∀j (h1:j<a.length) (h2:j<b.length),aDx a[j] b[j]):Ct prog 96 [.sl false (a.map mK),.sl false (b.map mK),.clo (.func 55) [] []] σ (fun r σ'=>r= .bool (Kv a b)/\σ'=σ):=by
 refine zf func96 ?_;refine bT fun _ _ Z=>?_;simp(disch:=omega);apply Z;apply aF;refine bT fun _ _ Z=>?_;simp(disch:=omega);and_intros<;>(try omega);apply Z;refine zI ?_ ?_<;>intro c1<;>try simp at c1
 .refine bT fun _ _ Z=>?_;simp(disch:=omega);apply Z;apply aE;simp [aP];exact Lo (by omega)
 apply zA;apply aF;refine bT fun _ _ Z=>?_;simp(disch:=omega);and_intros<;>(try omega);apply Z;apply aN;refine zk [1,2,6,15,16,17] ?_;refine bA (fun(k:Nat)=> [(17,.d (.v (.int .i64 (k:Int)))),(7,.d (.any)),(8,.d (.any)),(9,.d (.any))]) [6,7,8,9,17,18,19,20,21,22,23,24,25,26,27,28,29,30,31] (fun(k:Nat)=>k<=a.length/\∀j (h1:j<a.length) (h2:j<b.length),j<k->Oh a[j] b[j]=true) (fun(k:Nat)=>a.length - k) (0) (by simp <;> rfl) ?_ ?_ ?_
 .simp
 .exact⟨by omega,fun j h1 h2 h3=>absurd h3 (by omega)⟩
 rintro k ⟨hk,hh⟩;simp only [aM,aK];refine bT fun _ _ Z=>?_;simp(disch:=omega);apply Z;apply aF;refine zI ?_ ?_<;>intro c2<;>try simp at c2
 .apply kL;refine bT fun _ _ Z=>?_;simp(disch:=omega);and_intros<;>(try omega);apply Z;refine zk [1,2,7,8,9,15,16,17] ?_;refine bT fun _ _ Z=>?_;simp(disch:=omega);and_intros<;>(try omega);apply Z;refine zk [1,2,7,8,9,15,16,17] ?_;refine bT fun _ _ Z=>?_;refine zs 3 fun _ Y=>?_;simp(disch:=omega);apply Y;refine aG fun _ Y=>?_;simp(disch:=omega);refine dX (ih k (by omega) (by omega) _) ?_;apply Y;simp(disch:=omega);apply Z;refine zI ?_ ?_<;>intro c3<;>try simp at c3
  .refine zk [1,2,7,8,9,15,16,17] ?_;refine bT fun _ _ Z=>?_;simp(disch:=omega);apply Z;apply aE;simp [aP];exact Pm (by omega) (by omega) (by simpa using c3)
  apply lP;refine zk [1,2,7,8,9,15,16,17] ?_;refine tD fun _ _ Z=>?_;simp(disch:=omega);and_intros<;>(try omega);apply Z;refine zq (k+1) ?_ ?_ ?_
  .exact⟨by omega,Iy hh (by omega) (by omega) (by simpa using c3)⟩
  .try dsimp only
   omega
  simp(disch:=omega)
 apply zE;refine bT fun _ _ Z=>?_;simp(disch:=omega);apply Z;apply aE;simp [aP];exact Vp (by omega) fun j h1 h2=>hh j h1 h2 (by omega)
theorem aHe(a b:TN)(σ:List (List D))(ha:TE a)(hb:TE b)(ih:∀j (h1:j<a.kids.length) (h2:j<b.kids.length),aDx a.kids[j] b.kids[j]):Ct prog 55 [fU a,fU b] σ (fun r σ'=>r= .bool (Oh a b)/\σ'=σ):=by
 refine zf func55 ?_;obtain⟨⟨a1,a2,a3,a4⟩,a5,a6⟩:=ha;obtain⟨⟨b1,b2,b3,b4⟩,b5,b6⟩:=hb;refine bT fun _ _ Z=>?_;simp(disch:=omega);apply Z;apply aF;refine oL ⟨[],[],[],[],[]⟩ fun all hall _ Z=>?_;have ga5:aQ all 5=some 10:=hall 5;have ga12:aQ all 12=some 17:=hall 12;have ga19:aQ all 19=some 24:=hall 19;refine zs 6 fun _ Y=>?_;simp(disch:=omega)[ga5,ga12,ga19];apply Y;refine zb 10 ?_ ?_<;>intro g1<;>try simp at g1
 .refine zs 7 fun _ Y=>?_;simp(disch:=omega)[ga5,ga12,ga19];apply Y;refine zs 7 fun _ Y=>?_;simp(disch:=omega)[ga5,ga12,ga19];apply Y;simp(disch:=omega)[ga5,ga12,ga19];apply Z;refine aY (t:=true) (by simp) (fun _=>?_) (fun h=>by cases h);refine zk [2,3,4] ?_;refine bT fun _ _ Z=>?_;simp(disch:=omega);apply Z;apply aE;simp [aP,jV, *]
 refine zs 7 fun _ Y=>?_;simp(disch:=omega)[ga5,ga12,ga19];apply Y;refine zb 17 ?_ ?_<;>intro g2<;>try simp at g2
 .refine zs 7 fun _ Y=>?_;simp(disch:=omega)[ga5,ga12,ga19];apply Y;simp(disch:=omega)[ga5,ga12,ga19];apply Z;refine aY (t:=true) (by simp) (fun _=>?_) (fun h=>by cases h);refine zk [2,3,4] ?_;refine bT fun _ _ Z=>?_;simp(disch:=omega);apply Z;apply aE;simp [aP,jV, *]
 refine zs 7 fun _ Y=>?_;simp(disch:=omega)[ga5,ga12,ga19];apply Y;refine zb 24 ?_ ?_<;>intro g3<;>try simp at g3
 .simp(disch:=omega)[ga5,ga12,ga19];apply Z;refine aY (t:=true) (by simp) (fun _=>?_) (fun h=>by cases h);refine zk [2,3,4] ?_;refine bT fun _ _ Z=>?_;simp(disch:=omega);apply Z;apply aE;simp [aP,jV, *]
 refine zs 4 fun _ Y=>?_;simp(disch:=omega)[ga5,ga12,ga19];apply Y;refine zg ga19 fun _ Y=>?_;simp(disch:=omega)[ga5,ga12,ga19];refine dX (aC8 a.classes b.classes _ (by omega) (by omega)) ?_;apply Y;simp(disch:=omega)[ga5,ga12,ga19];apply Z;refine zI ?_ ?_<;>intro c4<;>try simp at c4
 .refine zk [2,3,4] ?_;refine bT fun _ _ Z=>?_;simp(disch:=omega);apply Z;apply aE;simp [aP,jV, *]
 apply zA;refine zk [2,3,4] ?_;refine oL ⟨[],[],[],[],[]⟩ fun all hall _ Z=>?_;have ga5:aQ all 5=some 37:=hall 5;have ga12:aQ all 12=some 44:=hall 12;refine zs 4 fun _ Y=>?_;simp(disch:=omega)[ga5,ga12];apply Y;refine aG fun _ Y=>?_;simp(disch:=omega)[ga5,ga12];refine dX (aHd a.attrs b.attrs _ (by omega) (by omega) a5 b5) ?_;apply Y;refine zs 1 fun _ Y=>?_;simp(disch:=omega)[ga5,ga12];apply Y;refine zb 37 ?_ ?_<;>intro g5<;>try simp at g5
 .refine zs 4 fun _ Y=>?_;simp(disch:=omega)[ga5,ga12];apply Y;refine zg ga5 fun _ Y=>?_;simp(disch:=omega)[ga5,ga12];refine dX (aE3 a.styles b.styles _ (by omega) (by omega) a6 b6) ?_;apply Y;refine zs 2 fun _ Y=>?_;simp(disch:=omega)[ga5,ga12];apply Y;refine zb 44 ?_ ?_<;>intro g6<;>try simp at g6
  .refine zs 4 fun _ Y=>?_;simp(disch:=omega)[ga5,ga12];apply Y;refine zg ga12 fun _ Y=>?_;simp(disch:=omega)[ga5,ga12];refine dX (aMz a.kids b.kids _ (by omega) (by omega) ih) ?_;apply Y;simp(disch:=omega)[ga5,ga12];apply Z;apply aE;simp [aP,jV, *]
  simp(disch:=omega)[ga5,ga12];apply Z;apply aE;simp [aP,jV, *]
 refine zs 7 fun _ Y=>?_;simp(disch:=omega)[ga5,ga12];apply Y;simp(disch:=omega)[ga5,ga12];apply Z;apply aE;simp [aP,jV, *]
theorem Yk(a b:TN)(σ:List (List D))(ha:TSz a)(hb:TSz b)(ih:∀j (h1:j<a.kids.length) (h2:j<b.kids.length),aLu a.kids[j] b.kids[j]):Ct prog 26 [fU a,fU b] σ (fun r σ'=>r= .bool (Oh a b)/\σ'=σ):=by
 refine zf func26 ?_;obtain⟨a1,a2,a3,a4⟩:=ha;obtain⟨b1,b2,b3,b4⟩:=hb;refine bT fun _ _ Z=>?_;simp(disch:=omega);apply Z;apply aF;refine oL ⟨[],[],[],[],[]⟩ fun all hall _ Z=>?_;have ga5:aQ all 5=some 14:=hall 5;have ga12:aQ all 12=some 21:=hall 12;have ga19:aQ all 19=some 28:=hall 19;have ga28:aQ all 28=some 37:=hall 28;have ga37:aQ all 37=some 46:=hall 37;have ga46:aQ all 46=some 55:=hall 46;refine zs 6 fun _ Y=>?_;simp(disch:=omega)[ga5,ga12,ga19,ga28,ga37,ga46];apply Y;refine zb 14 ?_ ?_<;>intro g1<;>try simp at g1
 .refine zs 7 fun _ Y=>?_;simp(disch:=omega)[ga5,ga12,ga19,ga28,ga37,ga46];apply Y;refine zs 7 fun _ Y=>?_;simp(disch:=omega)[ga5,ga12,ga19,ga28,ga37,ga46];apply Y;refine zs 8 fun _ Y=>?_;simp(disch:=omega)[ga5,ga12,ga19,ga28,ga37,ga46];apply Y;refine zs 1 fun _ Y=>?_;simp(disch:=omega)[ga5,ga12,ga19,ga28,ga37,ga46];apply Y;refine zs 8 fun _ Y=>?_;simp(disch:=omega)[ga5,ga12,ga19,ga28,ga37,ga46];apply Y;refine zs 1 fun _ Y=>?_;simp(disch:=omega)[ga5,ga12,ga19,ga28,ga37,ga46];apply Y;refine zs 8 fun _ Y=>?_;simp(disch:=omega)[ga5,ga12,ga19,ga28,ga37,ga46];apply Y;refine zs 1 fun _ Y=>?_;simp(disch:=omega)[ga5,ga12,ga19,ga28,ga37,ga46];apply Y;simp(disch:=omega)[ga5,ga12,ga19,ga28,ga37,ga46];apply Z;refine aY (t:=true) (by simp) (fun _=>?_) (fun h=>by cases h);refine zk [2,3,4] ?_;refine bT fun _ _ Z=>?_;simp(disch:=omega);apply Z;apply aE;simp [aP,jV, *]
 refine zs 7 fun _ Y=>?_;simp(disch:=omega)[ga5,ga12,ga19,ga28,ga37,ga46];apply Y;refine zb 21 ?_ ?_<;>intro g2<;>try simp at g2
 .refine zs 7 fun _ Y=>?_;simp(disch:=omega)[ga5,ga12,ga19,ga28,ga37,ga46];apply Y;refine zs 8 fun _ Y=>?_;simp(disch:=omega)[ga5,ga12,ga19,ga28,ga37,ga46];apply Y;refine zs 1 fun _ Y=>?_;simp(disch:=omega)[ga5,ga12,ga19,ga28,ga37,ga46];apply Y;refine zs 8 fun _ Y=>?_;simp(disch:=omega)[ga5,ga12,ga19,ga28,ga37,ga46];apply Y;refine zs 1 fun _ Y=>?_;simp(disch:=omega)[ga5,ga12,ga19,ga28,ga37,ga46];apply Y;refine zs 8 fun _ Y=>?_;simp(disch:=omega)[ga5,ga12,ga19,ga28,ga37,ga46];apply Y;refine zs 1 fun _ Y=>?_;simp(disch:=omega)[ga5,ga12,ga19,ga28,ga37,ga46];apply Y;simp(disch:=omega)[ga5,ga12,ga19,ga28,ga37,ga46];apply Z;refine aY (t:=true) (by simp) (fun _=>?_) (fun h=>by cases h);refine zk [2,3,4] ?_;refine bT fun _ _ Z=>?_;simp(disch:=omega);apply Z;apply aE;simp [aP,jV, *]
 refine zs 7 fun _ Y=>?_;simp(disch:=omega)[ga5,ga12,ga19,ga28,ga37,ga46];apply Y;refine zb 28 ?_ ?_<;>intro g3<;>try simp at g3
 .refine zs 8 fun _ Y=>?_;simp(disch:=omega)[ga5,ga12,ga19,ga28,ga37,ga46];apply Y;refine zs 1 fun _ Y=>?_;simp(disch:=omega)[ga5,ga12,ga19,ga28,ga37,ga46];apply Y;refine zs 8 fun _ Y=>?_;simp(disch:=omega)[ga5,ga12,ga19,ga28,ga37,ga46];apply Y;refine zs 1 fun _ Y=>?_;simp(disch:=omega)[ga5,ga12,ga19,ga28,ga37,ga46];apply Y;refine zs 8 fun _ Y=>?_;simp(disch:=omega)[ga5,ga12,ga19,ga28,ga37,ga46];apply Y;refine zs 1 fun _ Y=>?_;simp(disch:=omega)[ga5,ga12,ga19,ga28,ga37,ga46];apply Y;simp(disch:=omega)[ga5,ga12,ga19,ga28,ga37,ga46];apply Z;refine aY (t:=true) (by simp) (fun _=>?_) (fun h=>by cases h);refine zk [2,3,4] ?_;refine bT fun _ _ Z=>?_;simp(disch:=omega);apply Z;apply aE;simp [aP,jV, *]
 refine zs 8 fun _ Y=>?_;simp(disch:=omega)[ga5,ga12,ga19,ga28,ga37,ga46];and_intros<;>(try omega);apply Y;refine zs 1 fun _ Y=>?_;simp(disch:=omega)[ga5,ga12,ga19,ga28,ga37,ga46];apply Y;refine zb 37 ?_ ?_<;>intro g4<;>try simp at g4
 .refine zs 8 fun _ Y=>?_;simp(disch:=omega)[ga5,ga12,ga19,ga28,ga37,ga46];apply Y;refine zs 1 fun _ Y=>?_;simp(disch:=omega)[ga5,ga12,ga19,ga28,ga37,ga46];apply Y;refine zs 8 fun _ Y=>?_;simp(disch:=omega)[ga5,ga12,ga19,ga28,ga37,ga46];apply Y;refine zs 1 fun _ Y=>?_;simp(disch:=omega)[ga5,ga12,ga19,ga28,ga37,ga46];apply Y;simp(disch:=omega)[ga5,ga12,ga19,ga28,ga37,ga46];apply Z;refine aY (t:=true) (by simp) (fun _=>?_) (fun h=>by cases h);refine zk [2,3,4] ?_;refine bT fun _ _ Z=>?_;simp(disch:=omega);apply Z;apply aE;have hne:¬a.classes=b.classes:=fun e=>g4 (by rw [e]);simp [aP,jV,hne]
 refine zs 8 fun _ Y=>?_;simp(disch:=omega)[ga5,ga12,ga19,ga28,ga37,ga46];and_intros<;>(try omega);apply Y;refine zs 1 fun _ Y=>?_;simp(disch:=omega)[ga5,ga12,ga19,ga28,ga37,ga46];apply Y;refine zb 46 ?_ ?_<;>intro g5<;>try simp at g5
 .refine zs 8 fun _ Y=>?_;simp(disch:=omega)[ga5,ga12,ga19,ga28,ga37,ga46];apply Y;refine zs 1 fun _ Y=>?_;simp(disch:=omega)[ga5,ga12,ga19,ga28,ga37,ga46];apply Y;simp(disch:=omega)[ga5,ga12,ga19,ga28,ga37,ga46];apply Z;refine aY (t:=true) (by simp) (fun _=>?_) (fun h=>by cases h);refine zk [2,3,4] ?_;refine bT fun _ _ Z=>?_;simp(disch:=omega);apply Z;apply aE;have hne:¬a.attrs=b.attrs:=fun e=>g5 (by rw [e]);simp [aP,jV,hne]
 refine zs 8 fun _ Y=>?_;simp(disch:=omega)[ga5,ga12,ga19,ga28,ga37,ga46];and_intros<;>(try omega);apply Y;refine zs 1 fun _ Y=>?_;simp(disch:=omega)[ga5,ga12,ga19,ga28,ga37,ga46];apply Y;refine zb 55 ?_ ?_<;>intro g6<;>try simp at g6
 .simp(disch:=omega)[ga5,ga12,ga19,ga28,ga37,ga46];apply Z;refine aY (t:=true) (by simp) (fun _=>?_) (fun h=>by cases h);refine zk [2,3,4] ?_;refine bT fun _ _ Z=>?_;simp(disch:=omega);apply Z;apply aE;have hne:¬a.styles=b.styles:=fun e=>g6 (by rw [e]);simp [aP,jV,hne]
 simp(disch:=omega)[ga5,ga12,ga19,ga28,ga37,ga46];and_intros<;>(try omega);apply Z;refine zI ?_ ?_<;>intro c7<;>try simp at c7
 .refine zk [2,3,4] ?_;refine bT fun _ _ Z=>?_;simp(disch:=omega);apply Z;apply aE;have hne:Kv a.kids b.kids=false:=Lo (by omega);simp [aP,jV,hne]
 apply zA;apply aF;refine zk [2,3,4] ?_;refine bT fun _ _ Z=>?_;simp(disch:=omega);and_intros<;>(try omega);apply Z;apply aN;refine zk [2,3,4,66,67] ?_;refine bA (fun(k:Nat)=> [(67,.d (.v (.int .i64 (k:Int)))),(5,.d (.any))]) [4,5,67,68,69,70,71,72,73,74,75,76,77,78,79,80,81] (fun(k:Nat)=>k<=a.classes.length/\a.classes.take k=b.classes.take k) (fun(k:Nat)=>a.classes.length - k) (0) (by simp <;> rfl) ?_ ?_ ?_
 .simp
 .simp
 rintro k ⟨hk,hh⟩;simp only [aM,aK];refine bT fun _ _ Z=>?_;simp(disch:=omega);apply Z;apply aF;refine zI ?_ ?_<;>intro c8<;>try simp at c8
 .apply kL;refine bT fun _ _ Z=>?_;simp(disch:=omega);apply Z;refine zd ⟨[],[],[],[],[]⟩ [.op {},.op {rL:=true},.op {},.op {},.op {},.op {},.op {rL:=true},.op {},.op {},.op {},.op {}] fun all hall _ Z=>?_;refine iK 8 fun _ Y=>?_;simp(disch:=omega);and_intros<;>(try omega);apply Y;simp(disch:=omega);and_intros<;>(try omega);apply Z;refine zI ?_ ?_<;>intro c9<;>try simp at c9
  .refine zk [2,3,5,66,67] ?_;refine bT fun _ _ Z=>?_;simp(disch:=omega);apply Z;apply aE;have hne:¬a.classes=b.classes:=lZ (by omega) (by omega) c9;simp [aP,jV,hne]
  apply lP;refine zk [2,3,5,66,67] ?_;refine tD fun _ _ Z=>?_;simp(disch:=omega);and_intros<;>(try omega);apply Z;refine zq (k+1) ?_ ?_ ?_
  .exact⟨by omega,kT hh (by omega) (by omega) (by assumption)⟩
  .try dsimp only
   omega
  simp(disch:=omega)
 have e1:a.classes=b.classes:=jP hh (by omega) (by omega);apply zE;apply aF;refine bT fun _ _ Z=>?_;simp(disch:=omega);and_intros<;>(try omega);apply Z;apply aN;refine zk [2,3,84,85] ?_;refine bA (fun(k:Nat)=> [(85,.d (.v (.int .i64 (k:Int)))),(6,.d (.any))]) [4,6,85,86,87,88,89,90,91,92,93,94,95,96,97,98,99] (fun(k:Nat)=>k<=a.attrs.length/\a.attrs.take k=b.attrs.take k) (fun(k:Nat)=>a.attrs.length - k) (0) (by simp <;> rfl) ?_ ?_ ?_
 .simp
 .simp
 rintro k ⟨hk,hh⟩;simp only [aM,aK];refine bT fun _ _ Z=>?_;simp(disch:=omega);apply Z;apply aF;refine zI ?_ ?_<;>intro c10<;>try simp at c10
 .apply kL;refine bT fun _ _ Z=>?_;simp(disch:=omega);apply Z;refine zd ⟨[],[],[],[],[]⟩ [.op {},.op {rL:=true},.op {},.op {},.op {},.op {},.op {rL:=true},.op {},.op {},.op {},.op {}] fun all hall _ Z=>?_;refine iK 8 fun _ Y=>?_;simp(disch:=omega);and_intros<;>(try omega);apply Y;simp(disch:=omega);and_intros<;>(try omega);apply Z;refine zI ?_ ?_<;>intro c11<;>try simp at c11
  .refine zk [2,3,6,84,85] ?_;refine bT fun _ _ Z=>?_;simp(disch:=omega);apply Z;apply aE;have hne:¬a.attrs=b.attrs:=lZ (by omega) (by omega) (fun e=>by rw [e] at c11;simp at c11);simp [aP,jV,hne]
  apply lP;refine zk [2,3,6,84,85] ?_;refine tD fun _ _ Z=>?_;simp(disch:=omega);and_intros<;>(try omega);apply Z;refine zq (k+1) ?_ ?_ ?_
  .exact⟨by omega,kT hh (by omega) (by omega) (aHa (by assumption))⟩
  .try dsimp only
   omega
  simp(disch:=omega)
 have e2:a.attrs=b.attrs:=jP hh (by omega) (by omega);apply zE;apply aF;refine bT fun _ _ Z=>?_;simp(disch:=omega);and_intros<;>(try omega);apply Z;apply aN;refine zk [2,3,102,103] ?_;refine bA (fun(k:Nat)=> [(103,.d (.v (.int .i64 (k:Int)))),(7,.d (.any))]) [4,7,103,104,105,106,107,108,109,110,111,112,113,114,115,116,117] (fun(k:Nat)=>k<=a.styles.length/\a.styles.take k=b.styles.take k) (fun(k:Nat)=>a.styles.length - k) (0) (by simp <;> rfl) ?_ ?_ ?_
 .simp
 .simp
 rintro k ⟨hk,hh⟩;simp only [aM,aK];refine bT fun _ _ Z=>?_;simp(disch:=omega);apply Z;apply aF;refine zI ?_ ?_<;>intro c12<;>try simp at c12
 .apply kL;refine bT fun _ _ Z=>?_;simp(disch:=omega);apply Z;refine zd ⟨[],[],[],[],[]⟩ [.op {},.op {rL:=true},.op {},.op {},.op {},.op {},.op {rL:=true},.op {},.op {},.op {},.op {}] fun all hall _ Z=>?_;refine iK 8 fun _ Y=>?_;simp(disch:=omega);and_intros<;>(try omega);apply Y;simp(disch:=omega);and_intros<;>(try omega);apply Z;refine zI ?_ ?_<;>intro c13<;>try simp at c13
  .refine zk [2,3,7,102,103] ?_;refine bT fun _ _ Z=>?_;simp(disch:=omega);apply Z;apply aE;have hne:¬a.styles=b.styles:=lZ (by omega) (by omega) (fun e=>by rw [e] at c13;simp at c13);simp [aP,jV,hne]
  apply lP;refine zk [2,3,7,102,103] ?_;refine tD fun _ _ Z=>?_;simp(disch:=omega);and_intros<;>(try omega);apply Z;refine zq (k+1) ?_ ?_ ?_
  .exact⟨by omega,kT hh (by omega) (by omega) (aEe (by assumption))⟩
  .try dsimp only
   omega
  simp(disch:=omega)
 have e3:a.styles=b.styles:=jP hh (by omega) (by omega);apply zE;apply aF;refine bT fun _ _ Z=>?_;simp(disch:=omega);and_intros<;>(try omega);apply Z;apply aN;refine zk [2,3,120,121] ?_;refine bA (fun(k:Nat)=> [(121,.d (.v (.int .i64 (k:Int)))),(8,.d (.any))]) [4,8,121,122,123,124,125,126,127,128,129,130,131,132,133,134,135,136] (fun(k:Nat)=>k<=a.kids.length/\∀j (h1:j<a.kids.length) (h2:j<b.kids.length),j<k->Oh a.kids[j] b.kids[j]=true) (fun(k:Nat)=>a.kids.length - k) (0) (by simp <;> rfl) ?_ ?_ ?_
 .simp
 .exact⟨by omega,fun j h1 h2 h3=>absurd h3 (by omega)⟩
 rintro k ⟨hk,hh⟩;simp only [aM,aK];refine bT fun _ _ Z=>?_;simp(disch:=omega);apply Z;apply aF;refine zI ?_ ?_<;>intro c14<;>try simp at c14
 .apply kL;refine bT fun _ _ Z=>?_;simp(disch:=omega);apply Z;refine zk [2,3,8,120,121] ?_;refine zd ⟨[],[],[],[],[]⟩ [.op {},.op {rL:=true},.op {},.op {},.op {},.op {},.op {rL:=true},.op {},.op {},.op {},.pure,.op {}] fun all hall _ Z=>?_;refine iK 8 fun _ Y=>?_;simp(disch:=omega);and_intros<;>(try omega);apply Y;refine iK 2 fun _ Y=>?_;simp(disch:=omega);and_intros<;>(try omega);apply Y;refine bJ fun _ Y=>?_;simp(disch:=omega);refine pH (fun _=>(ih k (by omega) (by omega) _)) ?_;apply Y;simp(disch:=omega);apply Z;refine zI ?_ ?_<;>intro c15<;>try simp at c15
  .refine zk [2,3,8,120,121] ?_;refine bT fun _ _ Z=>?_;simp(disch:=omega);apply Z;apply aE;have hne:Kv a.kids b.kids=false:=Pm (by omega) (by omega) (by simpa using c15);simp [aP,jV,hne]
  apply lP;refine zk [2,3,8,120,121] ?_;refine tD fun _ _ Z=>?_;simp(disch:=omega);and_intros<;>(try omega);apply Z;refine zq (k+1) ?_ ?_ ?_
  .exact⟨by omega,Iy hh (by omega) (by omega) (by assumption)⟩
  .try dsimp only
   omega
  simp(disch:=omega)
 have e4:Kv a.kids b.kids=true:=Vp (by omega) fun j h1 h2=>hh j h1 h2 (by omega);apply zE;refine bT fun _ _ Z=>?_;simp(disch:=omega);apply Z;apply aE;simp [aP,jV,e1,e2,e3,e4,g1,g2,g3]
theorem Vj(a b:TN)(ha:TI a)(hb:TI b):aDx a b:=fun σ=>aHe a b σ ha.e hb.e fun j h1 h2=>Vj a.kids[j] b.kids[j] (ha.k _ (bS h1)) (hb.k _ (bS h2))
termination_by jF a
decreasing_by
 have:=iX (bS h1);omega
theorem Pp(a b:TN)(ha:TB a)(hb:TB b):aLu a b:=fun σ=>Yk a b σ ha.s hb.s fun j h1 h2=>Pp a.kids[j] b.kids[j] (ha.k _ (bS h1)) (hb.k _ (bS h2))
termination_by jF a
decreasing_by
 have:=iX (bS h1);omega
theorem TI.b:∀ {t:TN},TI t->TB t
 | t,h=> .mk t h.e.1 fun k hk=>TI.b (h.k k hk)
termination_by t=>jF t
decreasing_by
 have:=iX hk;omega
end Go.Proofs.YtbdjepeabjangaaGreat
