import Derived.Test.YtbdjepeabjangaaGreatWkAu4
set_option linter.all false
set_option maxRecDepth 20000
set_option maxHeartbeats 8000000
open Go.Proofs.Tryz
namespace Go.Proofs.YtbdjepeabjangaaGreat
open Go Go.Vm
variable {a:List TN}{k:Nat}{α:Type}
theorem oY {a b:List α} (h:a.take k=b.take k)(ha:a.length<=k)(hb:b.length<=k):a=b:=by
 rwa [bW ha,bW hb] at h
theorem qV {a b:List α} (h:a.take k=b.take k)(ha:k<a.length)(hb:k<b.length)(e:a[k]=b[k]):a.take (k+1)=b.take (k+1):=by
 rw [bM a k ha,bM b k hb,h,e]
theorem tA {a b:List α} (ha:k<a.length)(hb:k<b.length)(e:¬a[k]=b[k]):¬a=b:=fun h=>e (by subst h;rfl)
def Qz(a b:TN):Bool:=decide (a.kind=b.kind) && decide (a.tag=b.tag) && decide (a.text=b.text) && decide (a.classes=b.classes) && decide (a.attrs=b.attrs) && decide (a.styles=b.styles) && decide (a.kids.length=b.kids.length) && (a.kids.attach.zip b.kids).all fun p=>Qz p.1.1 p.2
termination_by SizeOf.sizeOf a
decreasing_by
 have h:=iC p.1.2;cases a;simp at h |-;omega
def Mh(a b:List TN):Bool:=decide (a.length=b.length) && (a.zip b).all fun p=>Qz p.1 p.2
theorem uM(a b:TN):Qz a b=(decide (a.kind=b.kind) && decide (a.tag=b.tag) && decide (a.text=b.text) && decide (a.classes=b.classes) && decide (a.attrs=b.attrs) && decide (a.styles=b.styles) && Mh a.kids b.kids):=by
 rw [Qz,aFk a.kids b.kids Qz];unfold Mh;simp only [Bool.and_assoc]
theorem Rw {b:List TN} (h:¬a.length=b.length):Mh a b=false:=by unfold Mh;simp [h]
theorem aCx {b:List TN} (ha:k<a.length)(hb:k<b.length)(e:Qz a[k] b[k]=false):Mh a b=false:=by
 rw [<- yE];unfold Mh;rw [fZ,eJ];rintro⟨-,h⟩;have h1:k<(a.zip b).length:=by rw [List.length_zip];omega
 have:=h (a.zip b)[k] (cR h1);rw [List.getElem_zip] at this;rw [e] at this;cases this
theorem aFl {b:List TN} (hl:a.length=b.length)(h:∀j (h1:j<a.length) (h2:j<b.length),Qz a[j] b[j]=true):Mh a b=true:=by
 unfold Mh;rw [fZ,eJ];refine⟨by simpa using hl,fun p hp=>?_⟩;obtain⟨j,hj,rfl⟩:=yI hp;rw [List.length_zip] at hj;rw [List.getElem_zip];exact h j (by omega) (by omega)
theorem Vk {b:List TN} (h:∀j (h1:j<a.length) (h2:j<b.length),j<k->Qz a[j] b[j]=true)(ha:k<a.length)(hb:k<b.length)(e:Qz a[k] b[k]=true):∀j (h1:j<a.length) (h2:j<b.length),j<k+1->Qz a[j] b[j]=true:=fun j h1 h2 h3=>by
 rcases xY.1 h3 with h4 | rfl
 .exact h j h1 h2 h4
 exact e
theorem Yl(a b:List ByteArray)(σ:List (List D))(ha:a.length<=99999)(hb:b.length<=99999):Ct prog 100 [.sl false (a.map D.str),.sl false (b.map D.str)] σ (fun r σ'=>r= .bool (decide (a=b))/\σ'=σ):=by
 refine zf func100 ?_;refine cL fun _ _ Z=>?_;simp(disch:=omega);apply Z;apply aE;refine cL fun _ _ Z=>?_;simp(disch:=omega);and_intros<;>(try omega);apply Z;refine zI ?_ ?_<;>intro c1<;>try simp at c1
 .refine cL fun _ _ Z=>?_;simp(disch:=omega);apply Z;apply aC;simp [aT];intro e;subst e;exact absurd rfl c1
 apply zA;apply aE;refine cL fun _ _ Z=>?_;simp(disch:=omega);and_intros<;>(try omega);apply Z;apply aQ;refine zk [0,1,4,12,13] ?_;refine bK (fun(k:Nat)=> [(13,.d (.v (.int .i64 (k:Int)))),(5,.d (.any))]) [4,5,13,14,15,16,17,18,19,20,21,22,23,24,25] (fun(k:Nat)=>k<=a.length/\a.take k=b.take k) (fun(k:Nat)=>a.length - k) (0) (by simp <;> rfl) ?_ ?_ ?_
 .simp
 .simp
 rintro k ⟨hk,hh⟩;simp only [aO,aK];refine cL fun _ _ Z=>?_;simp(disch:=omega);apply Z;apply aE;refine zI ?_ ?_<;>intro c2<;>try simp at c2
 .apply mT;refine cL fun _ _ Z=>?_;simp(disch:=omega);apply Z;refine zd ⟨[],[],[],[],[]⟩ [.op {},.op {},.op {},.op {},.op {},.op {},.op {},.op {},.op {}] fun all hall _ Z=>?_;refine kY 8 fun _ Y=>?_;simp(disch:=omega);and_intros<;>(try omega);apply Y;simp(disch:=omega);apply Z;refine zI ?_ ?_<;>intro c3<;>try simp at c3
  .refine zk [0,1,5,12,13] ?_;refine cL fun _ _ Z=>?_;simp(disch:=omega);apply Z;apply aC;simp [aT];exact tA (by omega) (by omega) (by simpa using c3)
  apply rK;refine zk [0,1,5,12,13] ?_;refine Dd fun _ _ Z=>?_;simp(disch:=omega);and_intros<;>(try omega);apply Z;refine zq (k+1) ?_ ?_ ?_
  .exact⟨by omega,qV hh (by omega) (by omega) (by simpa using c3)⟩
  .try dsimp only
   omega
  simp(disch:=omega)
 apply zE;refine cL fun _ _ Z=>?_;simp(disch:=omega);apply Z;apply aC;simp [aT];exact oY hh (by omega) (by omega)
theorem aKh {x y:AT} (h:x.name=y.name/\x.value=y.value):x=y:=by cases x;cases y;simp_all
theorem aKj {x y:PI} (h:x.name=y.name/\x.value=y.value):x=y:=by cases x;cases y;simp_all
theorem aG7 {x y:AWT} (h:x.kind=y.kind/\x.frame=y.frame):x=y:=by cases x;cases y;simp_all
theorem aIk(a b:List AT)(σ:List (List D))(ha:a.length<=99999)(hb:b.length<=99999):Ct prog 129 [.sl false (a.map cD),.sl false (b.map cD)] σ (fun r σ'=>r= .bool (decide (a=b))/\σ'=σ):=by
 refine zf func129 ?_;refine cL fun _ _ Z=>?_;simp(disch:=omega);apply Z;apply aE;refine cL fun _ _ Z=>?_;simp(disch:=omega);and_intros<;>(try omega);apply Z;refine zI ?_ ?_<;>intro c1<;>try simp at c1
 .refine cL fun _ _ Z=>?_;simp(disch:=omega);apply Z;apply aC;simp [aT];intro e;subst e;exact absurd rfl c1
 apply zA;apply aE;refine cL fun _ _ Z=>?_;simp(disch:=omega);and_intros<;>(try omega);apply Z;apply aQ;refine zk [0,1,4,12,13] ?_;refine bK (fun(k:Nat)=> [(13,.d (.v (.int .i64 (k:Int)))),(5,.d (.any))]) [4,5,13,14,15,16,17,18,19,20,21,22,23,24,25] (fun(k:Nat)=>k<=a.length/\a.take k=b.take k) (fun(k:Nat)=>a.length - k) (0) (by simp <;> rfl) ?_ ?_ ?_
 .simp
 .simp
 rintro k ⟨hk,hh⟩;simp only [aO,aK];refine cL fun _ _ Z=>?_;simp(disch:=omega);apply Z;apply aE;refine zI ?_ ?_<;>intro c2<;>try simp at c2
 .apply mT;refine cL fun _ _ Z=>?_;simp(disch:=omega);apply Z;refine zd ⟨[],[],[],[],[]⟩ [.op {},.op {},.op {},.op {},.op {},.op {},.op {},.op {},.op {}] fun all hall _ Z=>?_;refine kY 8 fun _ Y=>?_;simp(disch:=omega);and_intros<;>(try omega);apply Y;simp(disch:=omega);apply Z;refine zI ?_ ?_<;>intro c3<;>try simp at c3
  .refine zk [0,1,5,12,13] ?_;refine cL fun _ _ Z=>?_;simp(disch:=omega);apply Z;apply aC;simp [aT];exact tA (by omega) (by omega) (fun e=>by rw [e] at c3;simp at c3)
  apply rK;refine zk [0,1,5,12,13] ?_;refine Dd fun _ _ Z=>?_;simp(disch:=omega);and_intros<;>(try omega);apply Z;refine zq (k+1) ?_ ?_ ?_
  .exact⟨by omega,qV hh (by omega) (by omega) (aKh (by simpa using c3))⟩
  .try dsimp only
   omega
  simp(disch:=omega)
 apply zE;refine cL fun _ _ Z=>?_;simp(disch:=omega);apply Z;apply aC;simp [aT];exact oY hh (by omega) (by omega)
theorem aIv(a b:List PI)(σ:List (List D))(ha:a.length<=99999)(hb:b.length<=99999):Ct prog 130 [.sl false (a.map bV),.sl false (b.map bV)] σ (fun r σ'=>r= .bool (decide (a=b))/\σ'=σ):=by
 refine zf func130 ?_;refine cL fun _ _ Z=>?_;simp(disch:=omega);apply Z;apply aE;refine cL fun _ _ Z=>?_;simp(disch:=omega);and_intros<;>(try omega);apply Z;refine zI ?_ ?_<;>intro c1<;>try simp at c1
 .refine cL fun _ _ Z=>?_;simp(disch:=omega);apply Z;apply aC;simp [aT];intro e;subst e;exact absurd rfl c1
 apply zA;apply aE;refine cL fun _ _ Z=>?_;simp(disch:=omega);and_intros<;>(try omega);apply Z;apply aQ;refine zk [0,1,4,12,13] ?_;refine bK (fun(k:Nat)=> [(13,.d (.v (.int .i64 (k:Int)))),(5,.d (.any))]) [4,5,13,14,15,16,17,18,19,20,21,22,23,24,25] (fun(k:Nat)=>k<=a.length/\a.take k=b.take k) (fun(k:Nat)=>a.length - k) (0) (by simp <;> rfl) ?_ ?_ ?_
 .simp
 .simp
 rintro k ⟨hk,hh⟩;simp only [aO,aK];refine cL fun _ _ Z=>?_;simp(disch:=omega);apply Z;apply aE;refine zI ?_ ?_<;>intro c2<;>try simp at c2
 .apply mT;refine cL fun _ _ Z=>?_;simp(disch:=omega);apply Z;refine zd ⟨[],[],[],[],[]⟩ [.op {},.op {},.op {},.op {},.op {},.op {},.op {},.op {},.op {}] fun all hall _ Z=>?_;refine kY 8 fun _ Y=>?_;simp(disch:=omega);and_intros<;>(try omega);apply Y;simp(disch:=omega);apply Z;refine zI ?_ ?_<;>intro c3<;>try simp at c3
  .refine zk [0,1,5,12,13] ?_;refine cL fun _ _ Z=>?_;simp(disch:=omega);apply Z;apply aC;simp [aT];exact tA (by omega) (by omega) (fun e=>by rw [e] at c3;simp at c3)
  apply rK;refine zk [0,1,5,12,13] ?_;refine Dd fun _ _ Z=>?_;simp(disch:=omega);and_intros<;>(try omega);apply Z;refine zq (k+1) ?_ ?_ ?_
  .exact⟨by omega,qV hh (by omega) (by omega) (aKj (by simpa using c3))⟩
  .try dsimp only
   omega
  simp(disch:=omega)
 apply zE;refine cL fun _ _ Z=>?_;simp(disch:=omega);apply Z;apply aC;simp [aT];exact oY hh (by omega) (by omega)
theorem aId(a b:List AWT)(σ:List (List D))(ha:a.length<=99999)(hb:b.length<=99999):Ct prog 105 [.sl false (a.map Kv),.sl false (b.map Kv)] σ (fun r σ'=>r= .bool (decide (a=b))/\σ'=σ):=by
 refine zf func105 ?_;refine cL fun _ _ Z=>?_;simp(disch:=omega);apply Z;apply aE;refine cL fun _ _ Z=>?_;simp(disch:=omega);and_intros<;>(try omega);apply Z;refine zI ?_ ?_<;>intro c1<;>try simp at c1
 .refine cL fun _ _ Z=>?_;simp(disch:=omega);apply Z;apply aC;simp [aT];intro e;subst e;exact absurd rfl c1
 apply zA;apply aE;refine cL fun _ _ Z=>?_;simp(disch:=omega);and_intros<;>(try omega);apply Z;apply aQ;refine zk [0,1,4,12,13] ?_;refine bK (fun(k:Nat)=> [(13,.d (.v (.int .i64 (k:Int)))),(5,.d (.any))]) [4,5,13,14,15,16,17,18,19,20,21,22,23,24,25] (fun(k:Nat)=>k<=a.length/\a.take k=b.take k) (fun(k:Nat)=>a.length - k) (0) (by simp <;> rfl) ?_ ?_ ?_
 .simp
 .simp
 rintro k ⟨hk,hh⟩;simp only [aO,aK];refine cL fun _ _ Z=>?_;simp(disch:=omega);apply Z;apply aE;refine zI ?_ ?_<;>intro c2<;>try simp at c2
 .apply mT;refine cL fun _ _ Z=>?_;simp(disch:=omega);apply Z;refine zd ⟨[],[],[],[],[]⟩ [.op {},.op {},.op {},.op {},.op {},.op {},.op {},.op {},.op {}] fun all hall _ Z=>?_;refine kY 8 fun _ Y=>?_;simp(disch:=omega);and_intros<;>(try omega);apply Y;simp(disch:=omega);apply Z;refine zI ?_ ?_<;>intro c3<;>try simp at c3
  .refine zk [0,1,5,12,13] ?_;refine cL fun _ _ Z=>?_;simp(disch:=omega);apply Z;apply aC;simp [aT];exact tA (by omega) (by omega) (fun e=>by rw [e] at c3;simp at c3)
  apply rK;refine zk [0,1,5,12,13] ?_;refine Dd fun _ _ Z=>?_;simp(disch:=omega);and_intros<;>(try omega);apply Z;refine zq (k+1) ?_ ?_ ?_
  .exact⟨by omega,qV hh (by omega) (by omega) (aG7 (by simpa using c3))⟩
  .try dsimp only
   omega
  simp(disch:=omega)
 apply zE;refine cL fun _ _ Z=>?_;simp(disch:=omega);apply Z;apply aC;simp [aT];exact oY hh (by omega) (by omega)
theorem aB9(a b:Ls)(σ:List (List D))(ha:a.length<=99999)(hb:b.length<=99999):Ct prog 93 [dl a,dl b] σ (fun r σ'=>r= .bool (decide (a=b))/\σ'=σ):=by
 refine zf func93 ?_;refine cL fun _ _ Z=>?_;simp(disch:=omega);apply Z;refine cL fun _ _ Z=>?_;refine zs 2 fun _ Y=>?_;simp(disch:=omega);apply Y;refine aD fun _ Y=>?_;simp(disch:=omega);refine eH (Yl a b _ ha hb) ?_;apply Y;simp(disch:=omega);apply Z;apply aC;simp [aT]
theorem aCt(a b:List AT)(σ:List (List D))(ha:a.length<=99999)(hb:b.length<=99999)(hsa:eC nA a)(hsb:eC nA b):Ct prog 94 [.sl false (a.map cD),.sl false (b.map cD)] σ (fun r σ'=>r= .bool (decide (a=b))/\σ'=σ):=by
 refine zf func94 ?_;refine cL fun _ _ Z=>?_;simp(disch:=omega);apply Z;refine cL fun _ _ Z=>?_;refine zs 1 fun _ Y=>?_;simp(disch:=omega);apply Y;refine aD fun _ Y=>?_;simp(disch:=omega);refine eH (Im a _ (by omega)) ?_;rw [qP nA hsa];apply Y;refine zs 1 fun _ Y=>?_;simp(disch:=omega);apply Y;refine aD fun _ Y=>?_;simp(disch:=omega);refine eH (Im b _ (by omega)) ?_;rw [qP nA hsb];apply Y;refine aD fun _ Y=>?_;simp(disch:=omega);refine eH (aIk a b _ ha hb) ?_;apply Y;simp(disch:=omega);apply Z;apply aC;simp [aT]
theorem Yp(a b:List PI)(σ:List (List D))(ha:a.length<=99999)(hb:b.length<=99999)(hsa:eC nP a)(hsb:eC nP b):Ct prog 95 [.sl false (a.map bV),.sl false (b.map bV)] σ (fun r σ'=>r= .bool (decide (a=b))/\σ'=σ):=by
 refine zf func95 ?_;refine cL fun _ _ Z=>?_;simp(disch:=omega);apply Z;refine cL fun _ _ Z=>?_;refine zs 1 fun _ Y=>?_;simp(disch:=omega);apply Y;refine aD fun _ Y=>?_;simp(disch:=omega);refine eH (Au a _ (by omega)) ?_;rw [qP nP hsa];apply Y;refine zs 1 fun _ Y=>?_;simp(disch:=omega);apply Y;refine aD fun _ Y=>?_;simp(disch:=omega);refine eH (Au b _ (by omega)) ?_;rw [qP nP hsb];apply Y;refine aD fun _ Y=>?_;simp(disch:=omega);refine eH (aIv a b _ ha hb) ?_;apply Y;simp(disch:=omega);apply Z;apply aC;simp [aT]
abbrev Zf(a b:TN):Prop:=∀σ:List (List D),Ct prog 55 [iQ a,iQ b] σ (fun r σ'=>r=D.bool (Qz a b)/\σ'=σ)
theorem aKc(a b:List TN)(σ:List (List D))(ha:a.length<=99999)(hb:b.length<=99999)(ih:∀j (h1:j<a.length) (h2:j<b.length),Zf a[j] b[j]):Ct prog 96 [.sl false (a.map mQ),.sl false (b.map mQ),.clo (.func 55) [] []] σ (fun r σ'=>r= .bool (Mh a b)/\σ'=σ):=by
 refine zf func96 ?_;refine cL fun _ _ Z=>?_;simp(disch:=omega);apply Z;apply aE;refine cL fun _ _ Z=>?_;simp(disch:=omega);and_intros<;>(try omega);apply Z;refine zI ?_ ?_<;>intro c1<;>try simp at c1
 .refine cL fun _ _ Z=>?_;simp(disch:=omega);apply Z;apply aC;simp [aT];exact Rw (by omega)
 apply zA;apply aE;refine cL fun _ _ Z=>?_;simp(disch:=omega);and_intros<;>(try omega);apply Z;apply aQ;refine zk [1,2,6,15,16,17] ?_;refine bK (fun(k:Nat)=> [(17,.d (.v (.int .i64 (k:Int)))),(7,.d (.any)),(8,.d (.any)),(9,.d (.any))]) [6,7,8,9,17,18,19,20,21,22,23,24,25,26,27,28,29,30,31] (fun(k:Nat)=>k<=a.length/\∀j (h1:j<a.length) (h2:j<b.length),j<k->Qz a[j] b[j]=true) (fun(k:Nat)=>a.length - k) (0) (by simp <;> rfl) ?_ ?_ ?_
 .simp
 .exact⟨by omega,fun j h1 h2 h3=>absurd h3 (by omega)⟩
 rintro k ⟨hk,hh⟩;simp only [aO,aK];refine cL fun _ _ Z=>?_;simp(disch:=omega);apply Z;apply aE;refine zI ?_ ?_<;>intro c2<;>try simp at c2
 .apply mT;refine cL fun _ _ Z=>?_;simp(disch:=omega);and_intros<;>(try omega);apply Z;refine zk [1,2,7,8,9,15,16,17] ?_;refine cL fun _ _ Z=>?_;simp(disch:=omega);and_intros<;>(try omega);apply Z;refine zk [1,2,7,8,9,15,16,17] ?_;refine cL fun _ _ Z=>?_;refine zs 3 fun _ Y=>?_;simp(disch:=omega);apply Y;refine aD fun _ Y=>?_;simp(disch:=omega);refine eH (ih k (by omega) (by omega) _) ?_;apply Y;simp(disch:=omega);apply Z;refine zI ?_ ?_<;>intro c3<;>try simp at c3
  .refine zk [1,2,7,8,9,15,16,17] ?_;refine cL fun _ _ Z=>?_;simp(disch:=omega);apply Z;apply aC;simp [aT];exact aCx (by omega) (by omega) (by simpa using c3)
  apply rK;refine zk [1,2,7,8,9,15,16,17] ?_;refine Dd fun _ _ Z=>?_;simp(disch:=omega);and_intros<;>(try omega);apply Z;refine zq (k+1) ?_ ?_ ?_
  .exact⟨by omega,Vk hh (by omega) (by omega) (by simpa using c3)⟩
  .try dsimp only
   omega
  simp(disch:=omega)
 apply zE;refine cL fun _ _ Z=>?_;simp(disch:=omega);apply Z;apply aC;simp [aT];exact aFl (by omega) fun j h1 h2=>hh j h1 h2 (by omega)
theorem aCu(a b:TN)(σ:List (List D))(ha:TE a)(hb:TE b)(ih:∀j (h1:j<a.kids.length) (h2:j<b.kids.length),Zf a.kids[j] b.kids[j]):Ct prog 55 [iQ a,iQ b] σ (fun r σ'=>r= .bool (Qz a b)/\σ'=σ):=by
 refine zf func55 ?_;obtain⟨⟨a1,a2,a3,a4⟩,a5,a6⟩:=ha;obtain⟨⟨b1,b2,b3,b4⟩,b5,b6⟩:=hb;refine cL fun _ _ Z=>?_;simp(disch:=omega);apply Z;apply aE;refine vJ ⟨[],[],[],[],[]⟩ fun all hall _ Z=>?_;have ga5:aY all 5=some 10:=hall 5;have ga12:aY all 12=some 17:=hall 12;have ga19:aY all 19=some 24:=hall 19;refine zs 6 fun _ Y=>?_;simp(disch:=omega)[ga5,ga12,ga19];apply Y;refine zb 10 ?_ ?_<;>intro g1<;>try simp at g1
 .refine zs 7 fun _ Y=>?_;simp(disch:=omega)[ga5,ga12,ga19];apply Y;refine zs 7 fun _ Y=>?_;simp(disch:=omega)[ga5,ga12,ga19];apply Y;simp(disch:=omega)[ga5,ga12,ga19];apply Z;refine cJ (t:=true) (by simp) (fun _=>?_) (fun h=>by cases h);refine zk [2,3,4] ?_;refine cL fun _ _ Z=>?_;simp(disch:=omega);apply Z;apply aC;simp [aT,uM, *]
 refine zs 7 fun _ Y=>?_;simp(disch:=omega)[ga5,ga12,ga19];apply Y;refine zb 17 ?_ ?_<;>intro g2<;>try simp at g2
 .refine zs 7 fun _ Y=>?_;simp(disch:=omega)[ga5,ga12,ga19];apply Y;simp(disch:=omega)[ga5,ga12,ga19];apply Z;refine cJ (t:=true) (by simp) (fun _=>?_) (fun h=>by cases h);refine zk [2,3,4] ?_;refine cL fun _ _ Z=>?_;simp(disch:=omega);apply Z;apply aC;simp [aT,uM, *]
 refine zs 7 fun _ Y=>?_;simp(disch:=omega)[ga5,ga12,ga19];apply Y;refine zb 24 ?_ ?_<;>intro g3<;>try simp at g3
 .simp(disch:=omega)[ga5,ga12,ga19];apply Z;refine cJ (t:=true) (by simp) (fun _=>?_) (fun h=>by cases h);refine zk [2,3,4] ?_;refine cL fun _ _ Z=>?_;simp(disch:=omega);apply Z;apply aC;simp [aT,uM, *]
 refine zs 4 fun _ Y=>?_;simp(disch:=omega)[ga5,ga12,ga19];apply Y;refine zg ga19 fun _ Y=>?_;simp(disch:=omega)[ga5,ga12,ga19];refine eH (aB9 a.classes b.classes _ (by omega) (by omega)) ?_;apply Y;simp(disch:=omega)[ga5,ga12,ga19];apply Z;refine zI ?_ ?_<;>intro c4<;>try simp at c4
 .refine zk [2,3,4] ?_;refine cL fun _ _ Z=>?_;simp(disch:=omega);apply Z;apply aC;simp [aT,uM, *]
 apply zA;refine zk [2,3,4] ?_;refine vJ ⟨[],[],[],[],[]⟩ fun all hall _ Z=>?_;have ga5:aY all 5=some 37:=hall 5;have ga12:aY all 12=some 44:=hall 12;refine zs 4 fun _ Y=>?_;simp(disch:=omega)[ga5,ga12];apply Y;refine aD fun _ Y=>?_;simp(disch:=omega)[ga5,ga12];refine eH (aCt a.attrs b.attrs _ (by omega) (by omega) a5 b5) ?_;apply Y;refine zs 1 fun _ Y=>?_;simp(disch:=omega)[ga5,ga12];apply Y;refine zb 37 ?_ ?_<;>intro g5<;>try simp at g5
 .refine zs 4 fun _ Y=>?_;simp(disch:=omega)[ga5,ga12];apply Y;refine zg ga5 fun _ Y=>?_;simp(disch:=omega)[ga5,ga12];refine eH (Yp a.styles b.styles _ (by omega) (by omega) a6 b6) ?_;apply Y;refine zs 2 fun _ Y=>?_;simp(disch:=omega)[ga5,ga12];apply Y;refine zb 44 ?_ ?_<;>intro g6<;>try simp at g6
  .refine zs 4 fun _ Y=>?_;simp(disch:=omega)[ga5,ga12];apply Y;refine zg ga12 fun _ Y=>?_;simp(disch:=omega)[ga5,ga12];refine eH (aKc a.kids b.kids _ (by omega) (by omega) ih) ?_;apply Y;simp(disch:=omega)[ga5,ga12];apply Z;apply aC;simp [aT,uM, *]
  simp(disch:=omega)[ga5,ga12];apply Z;apply aC;simp [aT,uM, *]
 refine zs 7 fun _ Y=>?_;simp(disch:=omega)[ga5,ga12];apply Y;simp(disch:=omega)[ga5,ga12];apply Z;apply aC;simp [aT,uM, *]
theorem Qv(a b:TN)(ha:TI a)(hb:TI b):Zf a b:=fun σ=>aCu a b σ ha.e hb.e fun j h1 h2=>Qv a.kids[j] b.kids[j] (ha.k _ (cR h1)) (hb.k _ (cR h2))
termination_by jJ a
decreasing_by
 have:=jR (cR h1);omega
theorem TI.b:∀ {t:TN},TI t->TB t
 | t,h=> .mk t h.e.1 fun k hk=>TI.b (h.k k hk)
termination_by t=>jJ t
decreasing_by
 have:=jR hk;omega
end Go.Proofs.YtbdjepeabjangaaGreat
