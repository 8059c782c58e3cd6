import Derived.Test.YtbgfljpnhhdkoaaGreatVmX15
set_option linter.all false
set_option maxRecDepth 20000
set_option maxHeartbeats 8000000
open Go.Proofs.Tryz
namespace Go.Proofs.YtbgfljpnhhdkoaaGreat
open Go Go.Vm
variable {j:Nat}{α:Type}
structure OPT where
 enter:Int
 leave:Int
 move:Int
 mode:Int
 appear:Bool
 moves:Bool
 deriving DecidableEq
@[simp] abbrev aX3(s:OPT):D:= .agg [.v (.int .i64 s.enter),.v (.int .i64 s.leave),.v (.int .i64 s.move),.v (.int .i64 s.mode),.v (.bool s.appear),.v (.bool s.moves)]
structure FL where
 deep:Int
 kind:Int
 tag:ByteArray
 key:ByteArray
 text:ByteArray
 classes:(List ByteArray)
 attrs:(List AT)
 styles:(List PI)
 opts:OPT
 deriving DecidableEq
@[simp] abbrev Rc(s:FL):D:= .agg [.v (.int .i64 s.deep),.v (.int .i64 s.kind),.v (.string s.tag),.v (.string s.key),.v (.string s.text),.sl false (s.classes.map D.str),.sl false (s.attrs.map dA),.sl false (s.styles.map cQ),.v (.int .i64 s.opts.enter),.v (.int .i64 s.opts.leave),.v (.int .i64 s.opts.move),.v (.int .i64 s.opts.mode),.v (.bool s.opts.appear),.v (.bool s.opts.moves)]
@[simp] abbrev bA4(s:FL):D:= .agg [.v (.int .i64 s.deep),.v (.int .i64 s.kind),.v (.string s.tag),.v (.string s.key),.v (.string s.text),.sl true (s.classes.map D.str),.sl true (s.attrs.map dA),.sl true (s.styles.map cQ),.v (.int .i64 s.opts.enter),.v (.int .i64 s.opts.leave),.v (.int .i64 s.opts.move),.v (.int .i64 s.opts.mode),.v (.bool s.opts.appear),.v (.bool s.opts.moves)]
structure VN where
 kind:Int
 tag:ByteArray
 key:ByteArray
 text:ByteArray
 classes:(List ByteArray)
 attrs:(List AT)
 styles:(List PI)
 opts:OPT
 kids:(List VN)
def oG(s:VN):D:= .agg [.v (.int .i64 s.kind),.v (.string s.tag),.v (.string s.key),.v (.string s.text),.sl false (s.classes.map D.str),.sl false (s.attrs.map dA),.sl false (s.styles.map cQ),.v (.int .i64 s.opts.enter),.v (.int .i64 s.opts.leave),.v (.int .i64 s.opts.move),.v (.int .i64 s.opts.mode),.v (.bool s.opts.appear),.v (.bool s.opts.moves),.sl false (s.kids.attach.map fun k=>oG k.1)]
termination_by SizeOf.sizeOf s
decreasing_by
 have h:=mI k.2;cases s;simp at h |-;omega
@[simp] abbrev iX(s:VN):D:= .agg [.v (.int .i64 s.kind),.v (.string s.tag),.v (.string s.key),.v (.string s.text),.sl false (s.classes.map D.str),.sl false (s.attrs.map dA),.sl false (s.styles.map cQ),.v (.int .i64 s.opts.enter),.v (.int .i64 s.opts.leave),.v (.int .i64 s.opts.move),.v (.int .i64 s.opts.mode),.v (.bool s.opts.appear),.v (.bool s.opts.moves),.sl false (s.kids.map oG)]
@[simp] abbrev bBl(s:VN):D:= .agg [.v (.int .i64 s.kind),.v (.string s.tag),.v (.string s.key),.v (.string s.text),.sl true (s.classes.map D.str),.sl true (s.attrs.map dA),.sl true (s.styles.map cQ),.v (.int .i64 s.opts.enter),.v (.int .i64 s.opts.leave),.v (.int .i64 s.opts.move),.v (.int .i64 s.opts.mode),.v (.bool s.opts.appear),.v (.bool s.opts.moves),.sl true (s.kids.map oG)]
@[simp] theorem Tk(s:VN):oG s=iX s:=by rw [oG];simp
def Fj(l:Ls)(n:Nat):Ls:=(l.take n).map (uC 20)
def aY6(p:PI):PI:=⟨uC 20 p.name,p.value⟩
def aZe(p:AT):AT:=⟨uC 20 p.name,uC 40 p.value⟩
def Gb(l:List PI)(n:Nat):List PI:=(l.take n).map aY6
def Ma(l:List AT)(n:Nat):List AT:=(l.take n).map aZe
theorem aDm(l:List ByteArray)(k:Nat)(h:k<l.length):Fj l (k+1)=Fj l k++ [uC 20 l[k]]:=by
 unfold Fj;rw [bL l k h,cE];rfl
theorem aTm(l:List ByteArray):Fj l 0= []:=rfl
theorem Vt(l:List ByteArray)(n:Nat):(Fj l n).length<=n:=by simp [Fj];omega
theorem aIg(l:List ByteArray)(k n:Nat)(h:l.length<=k)(hn:k<=n):Fj l k=Fj l n:=by
 unfold Fj;rw [bZ h,bZ (lM h hn)]
theorem aD8(l:List PI)(k:Nat)(h:k<l.length):Gb l (k+1)=Gb l k++ [⟨uC 20 l[k].name,l[k].value⟩]:=by
 unfold Gb;rw [bL l k h,cE];rfl
theorem aUf(l:List PI):Gb l 0= []:=rfl
theorem Wc(l:List PI)(n:Nat):(Gb l n).length<=n:=by simp [Gb];omega
theorem aJa(l:List PI)(k n:Nat)(h:l.length<=k)(hn:k<=n):Gb l k=Gb l n:=by
 unfold Gb;rw [bZ h,bZ (lM h hn)]
theorem aDf(l:List AT)(k:Nat)(h:k<l.length):Ma l (k+1)=Ma l k++ [⟨uC 20 l[k].name,uC 40 l[k].value⟩]:=by
 unfold Ma;rw [bL l k h,cE];rfl
theorem aVi(l:List AT):Ma l 0= []:=rfl
theorem Vf(l:List AT)(n:Nat):(Ma l n).length<=n:=by simp [Ma];omega
theorem aLq(l:List AT)(k n:Nat)(h:l.length<=k)(hn:k<=n):Ma l k=Ma l n:=by
 unfold Ma;rw [bZ h,bZ (lM h hn)]
@[simp] abbrev q36_1:Cfg:=⟨[4,5,18,26],[],[],[],[]⟩
theorem aTi(l:Ls)(n:Nat)(σ:List (List D))(hl:l.length<=9223372036854775807)(hn:n<=1000000):Ct prog 169 [dl l,D.int n] σ (fun r σ'=>r= .sl true ((Fj l n).map D.str)/\σ'=σ):=by
 refine zf func169 ?_;refine zr q36_1 fun _ _ Z=>?_;simp(disch:=omega);apply Z;refine zr q36_1 fun _ _ Z=>?_;simp(disch:=omega);apply Z;apply aE;refine zr q36_1 fun _ _ Z=>?_;simp(disch:=omega);apply Z;apply aR;refine zk [0,1,4,5,6] ?_;refine aY (fun(k:Nat)=> [(6,.d (.int (k:Int))),(5,.d (.sl true ((Fj l k).map D.str)))]) [5,6,7,8,9,10,11,12,13,14,15,16,17,18,19,20,21,22,23,24,25] (fun(k:Nat)=>k<=l.length/\k<=n) (fun(k:Nat)=>l.length - k) (0) (by simp <;> rfl) ?_ ?_ ?_
 .simp [aTm]
 .simp
 rintro k ⟨hk,hn2⟩;simp only [aQ,aO];have hfl:=Vt l k;apply aE;refine mH q36_1 fun all hall _ Z=>?_;have ga4:aN all 4=some 11:=hall 4;refine zs 5 fun _ Y=>?_;simp(disch:=omega)[ga4];and_intros<;>(try omega);apply Y;refine zb 11 ?_ ?_<;>intro g1<;>try simp at g1
 .simp(disch:=omega)[ga4];apply Z;refine zI ?_ ?_<;>intro c2<;>try simp at c2
  .apply jM;refine zk [0,1,4,5,6] ?_;refine zt q36_1 fun _ _ Z=>?_;refine zs 5 fun _ Y=>?_;simp(disch:=omega);and_intros<;>(try omega);apply Y;refine aF fun _ Y=>?_;simp(disch:=omega);refine cT (Bp _ 20 _ (by omega)) ?_;apply Y;simp(disch:=omega);and_intros<;>(try omega);apply Z;apply zB;refine zk [0,1,4,5,6] ?_;refine zt q36_1 fun _ _ Z=>?_;simp(disch:=omega);and_intros<;>(try omega);apply Z;refine zq (k+1) ?_ ?_ ?_
   .omega
   .try dsimp only
    omega
   simp(disch:=omega)[aDm]
  apply zE;refine zk [4,5] ?_;refine zr q36_1 fun _ _ Z=>?_;simp(disch:=omega);apply Z;apply aC;simp [aH];rw [show k=n by omega]
 simp(disch:=omega)[ga4];apply Z;refine bA (t:=false) (by simp) (fun h=>by cases h) (fun _=>?_);apply zE;refine zk [4,5] ?_;refine zr q36_1 fun _ _ Z=>?_;simp(disch:=omega);apply Z;apply aC;simp [aH];rw [aIg l k n (by omega) (by omega)]
@[simp] abbrev q36_2:Cfg:=⟨[4,5,18,33],[],[],[],[]⟩
theorem aOr(l:List PI)(n:Nat)(σ:List (List D))(hl:l.length<=9223372036854775807)(hn:n<=1000000):Ct prog 170 [.sl false (l.map cQ),D.int n] σ (fun r σ'=>r= .sl true ((Gb l n).map cQ)/\σ'=σ):=by
 refine zf func170 ?_;refine zr q36_2 fun _ _ Z=>?_;simp(disch:=omega);apply Z;refine zr q36_2 fun _ _ Z=>?_;simp(disch:=omega);apply Z;apply aE;refine zr q36_2 fun _ _ Z=>?_;simp(disch:=omega);apply Z;apply aR;refine zk [0,1,4,5,6] ?_;refine aY (fun(k:Nat)=> [(6,.d (.int (k:Int))),(5,.d (.sl true ((Gb l k).map cQ)))]) [5,6,7,8,9,10,11,12,13,14,15,16,17,18,19,20,21,22,23,24,25,26,27,28,29,30,31,32] (fun(k:Nat)=>k<=l.length/\k<=n) (fun(k:Nat)=>l.length - k) (0) (by simp <;> rfl) ?_ ?_ ?_
 .simp [aUf]
 .simp
 rintro k ⟨hk,hn2⟩;simp only [aQ,aO];have hfl:=Wc l k;apply aE;refine mH q36_2 fun all hall _ Z=>?_;have ga4:aN all 4=some 11:=hall 4;refine zs 5 fun _ Y=>?_;simp(disch:=omega)[ga4];and_intros<;>(try omega);apply Y;refine zb 11 ?_ ?_<;>intro g1<;>try simp at g1
 .simp(disch:=omega)[ga4];apply Z;refine zI ?_ ?_<;>intro c2<;>try simp at c2
  .apply jM;refine zk [0,1,4,5,6] ?_;refine ze q36_2 [.op {},.op {},.op {},.op {},.op {},.op {},.pure,.op {},.op {},.op {},.op {},.op {},.op {},.op {},.op {},.op {}] fun all hall _ Z=>?_;refine kF 6 fun _ Y=>?_;simp(disch:=omega);and_intros<;>(try omega);apply Y;refine bY fun _ Y=>?_;simp(disch:=omega);refine wI (fun _=>(Bp _ 20 _ (by omega))) ?_;apply Y;refine kF 8 fun _ Y=>?_;simp(disch:=omega);and_intros<;>(try omega);apply Y;simp(disch:=omega);apply Z;apply zB;refine zk [0,1,4,5,6] ?_;refine zt q36_2 fun _ _ Z=>?_;simp(disch:=omega);and_intros<;>(try omega);apply Z;refine zq (k+1) ?_ ?_ ?_
   .omega
   .try dsimp only
    omega
   simp(disch:=omega)[aD8]
  apply zE;refine zk [4,5] ?_;refine zr q36_2 fun _ _ Z=>?_;simp(disch:=omega);apply Z;apply aC;simp [aH];rw [show k=n by omega]
 simp(disch:=omega)[ga4];apply Z;refine bA (t:=false) (by simp) (fun h=>by cases h) (fun _=>?_);apply zE;refine zk [4,5] ?_;refine zr q36_2 fun _ _ Z=>?_;simp(disch:=omega);apply Z;apply aC;simp [aH];rw [aJa l k n (by omega) (by omega)]
def wG(f:FL):VN:=⟨f.kind,uC 20 f.tag,uC 20 f.key,uC 70 f.text,Fj f.classes 4,Ma f.attrs 4,Gb f.styles 4,f.opts, []⟩
abbrev FO(f:FL):Prop:=f.classes.length<=9223372036854775807/\f.attrs.length<=9223372036854775807/\f.styles.length<=9223372036854775807
theorem aLz(f:FL)(σ:List (List D))(h:FO f):Ct prog 89 [Rc f] σ (fun r σ'=>r=iX (wG f)/\∃J,σ'=σ++J):=by
 refine zf func89 ?_;have h5:=h.1;have h6:=h.2.1;have h7:=h.2.2;refine zr ⟨[37],[],[3],[],[]⟩ fun _ _ Z=>?_;simp(disch:=omega)[bI,aI,aX,aG];apply Z;refine zd ⟨[37],[],[3],[],[]⟩ [.op {},.op {rL:=true},.op {},.op {rL:=true},.pure,.op {},.op {rL:=true},.pure,.op {},.op {rL:=true},.pure,.op {},.op {rL:=true},.pure,.op {},.op {rL:=true},.pure,.op {},.op {rL:=true},.op {},.op {rO:=true,wO:=true},.op {rO:=true,wO:=true}] fun all hall _ Z=>?_;refine kF 4 fun _ Y=>?_;simp(disch:=omega)[bI,aI,aX,aG];apply Y;refine bY fun _ Y=>?_;simp(disch:=omega)[bI,aI,aX,aG];refine wI (fun _=>(Bp f.tag 20 _ (by omega))) ?_;apply Y;refine kF 2 fun _ Y=>?_;simp(disch:=omega)[bI,aI,aX,aG];apply Y;refine bY fun _ Y=>?_;simp(disch:=omega)[bI,aI,aX,aG];refine wI (fun _=>(Bp f.key 20 _ (by omega))) ?_;apply Y;refine kF 2 fun _ Y=>?_;simp(disch:=omega)[bI,aI,aX,aG];apply Y;refine bY fun _ Y=>?_;simp(disch:=omega)[bI,aI,aX,aG];refine wI (fun _=>(Bp f.text 70 _ (by omega))) ?_;apply Y;refine kF 2 fun _ Y=>?_;simp(disch:=omega)[bI,aI,aX,aG];apply Y;refine bY fun _ Y=>?_;simp(disch:=omega)[bI,aI,aX,aG];refine wI (fun _=>(aTi f.classes 4 _ h5 (by omega))) ?_;apply Y;refine kF 2 fun _ Y=>?_;simp(disch:=omega)[bI,aI,aX,aG];apply Y;refine bY fun _ Y=>?_;simp(disch:=omega)[bI,aI,aX,aG];refine wI (fun _=>(aOr f.styles 4 _ h7 (by omega))) ?_;apply Y;simp(disch:=omega)[bI,aI,aX,aG];and_intros<;>(try omega);apply Z;apply aE;refine zk [1,2,3] ?_;refine zr ⟨[37],[],[3],[],[]⟩ fun _ _ Z=>?_;simp(disch:=omega)[bI,aI,aX,aG];apply Z;apply aR;refine zk [1,2,3,4] ?_;refine kI (fun(k:Nat)=> [(4,.d (.v (.int .i64 (k:Int))))]) (fun(k:Nat)=> []) (fun(k:Nat)=> [(σ.length, [D.int f.kind,D.str (uC 20 f.tag),D.str (uC 20 f.key),D.str (uC 70 f.text),.sl false ((Fj f.classes 4).map D.str),.sl true ((Ma f.attrs k).map dA),.sl false ((Gb f.styles 4).map cQ),D.int f.opts.enter,D.int f.opts.leave,D.int f.opts.move,D.int f.opts.mode,D.bool f.opts.appear,D.bool f.opts.moves,.sl true []])]) [4,25,26,27,28,29,30,31,32,33,34,35,36,37,38,39,40,41,42,43,44,45,46,47,48,49,50,51,52,53,54,55] (fun(k:Nat)=>k<=f.attrs.length/\k<=4) (fun(k:Nat)=>f.attrs.length - k) (0) (by simp <;> rfl) ?_ (by simp) (by simp [aI,aVi]) ?_ ?_
 .simp
 .simp
 rintro k ⟨hk,hk4⟩;simp only [aQ,aO,lE,jP,gD,fY];have hfl:=Vf f.attrs k;apply aE;refine mH ⟨[37],[],[3],[],[]⟩ fun all hall _ Z=>?_;have ga5:aN all 5=some 30:=hall 5;refine zs 6 fun _ Y=>?_;simp(disch:=omega)[bI,aI,aX,aG,ga5];and_intros<;>(try omega);apply Y;refine zb 30 ?_ ?_<;>intro g1<;>try simp at g1
 .simp(disch:=omega)[bI,aI,aX,aG,ga5];apply Z;refine zI ?_ ?_<;>intro c2<;>try simp at c2
  .apply jM;refine zk [1,2,3,4] ?_;refine ze ⟨[37],[],[3],[],[]⟩ [.op {},.op {rO:=true,wO:=true},.op {},.op {rL:=true},.op {},.op {},.op {},.op {},.pure,.op {},.op {rL:=true},.op {},.op {},.op {},.op {},.pure,.op {},.op {},.op {},.op {},.op {rO:=true,wO:=true}] fun all hall _ Z=>?_;refine kF 8 fun _ Y=>?_;simp(disch:=omega)[bI,aI,aX,aG];and_intros<;>(try omega);apply Y;refine bY fun _ Y=>?_;simp(disch:=omega)[bI,aI,aX,aG];refine wI (fun _=>(Bp f.attrs[k].name 20 _ (by omega))) ?_;apply Y;refine kF 6 fun _ Y=>?_;simp(disch:=omega)[bI,aI,aX,aG];and_intros<;>(try omega);apply Y;refine bY fun _ Y=>?_;simp(disch:=omega)[bI,aI,aX,aG];refine wI (fun _=>(Bp f.attrs[k].value 40 _ (by omega))) ?_;apply Y;simp(disch:=omega)[bI,aI,aX,aG];and_intros<;>(try omega);apply Z;apply zB;refine zk [1,2,3,4] ?_;refine zt ⟨[37],[],[3],[],[]⟩ fun _ _ Z=>?_;simp(disch:=omega)[bI,aI,aX,aG];and_intros<;>(try omega);apply Z;refine fB (k+1) ?_ ?_ (dW rfl ?_ (by simp) (by simp [aDf,aI, *]))
   .omega
   .try dsimp only
    omega
   simp(disch:=omega)[bI,aI,aX,aG]
  apply zE;refine zk [2,3] ?_;refine zr ⟨[37],[],[3],[],[]⟩ fun _ _ Z=>?_;simp(disch:=omega)[bI,aI,aX,aG];apply Z;apply aC;simp [aH,wG];rw [show k=4 by omega]
 simp(disch:=omega)[bI,aI,aX,aG,ga5];apply Z;refine bA (t:=false) (by simp) (fun h=>by cases h) (fun _=>?_);apply zE;refine zk [2,3] ?_;refine zr ⟨[37],[],[3],[],[]⟩ fun _ _ Z=>?_;simp(disch:=omega)[bI,aI,aX,aG];apply Z;apply aC;simp [aH,wG];rw [aLq f.attrs k 4 (by omega) (by omega)]
theorem Sf(N:Nat)(x:ByteArray):Sc N (D.str x):=Sc.v _
theorem Tc(N:Nat)(x:AT):Sc N (dA x):=Sc.agg fun d hd=>by
 simp at hd;rcases hd with rfl | rfl <;> exact Sc.v _
theorem Rr(N:Nat)(x:PI):Sc N (cQ x):=Sc.agg fun d hd=>by
 simp at hd;rcases hd with rfl | rfl <;> exact Sc.v _
theorem aPy(N:Nat)(f:FL):Sc N (iX (wG f)):=Sc.agg fun d hd=>by
 simp only [bM,gX,iB] at hd;rcases hd with rfl | rfl | rfl | rfl | rfl | rfl | rfl | rfl | rfl | rfl | rfl | rfl | rfl | rfl <;> first
  | exact Sc.v _
  | exact Sc.sl (Sc.map fun a=>Sf _ a)
  | exact Sc.sl (Sc.map fun a=>Tc _ a)
  | exact Sc.sl (Sc.map fun a=>Rr _ a)
  | exact Sc.sl fun d hd=>by cases hd
theorem Rb(f:FL)(σ:List (List D))(h:FO f):Ct prog 89 [Rc f] σ (fun r σ'=>r=iX (wG f)/\σ'=σ):=
 (aLz f σ h).trim fun r σ' ⟨hr,J,hs⟩=>⟨σ,J,hs,rfl,by rw [hr];exact aPy _ _,fun n cs h=> .inl h,hr,rfl⟩
def cB(v:VN):Nat:=1+(v.kids.attach.map fun k=>cB k.1).sum
termination_by SizeOf.sizeOf v
decreasing_by
 have h:=mI k.2;cases v;simp at h |-;omega
theorem jC(v:VN):cB v=1+(v.kids.map cB).sum:=by rw [cB];simp
abbrev VF(v:VN):Prop:=v.classes.length<=4/\v.attrs.length<=4/\v.styles.length<=4/\v.text.size<=70/\v.tag.size<=20/\v.key.size<=20/\(∀s∈v.classes,s.size<=20)/\(∀p∈v.attrs,p.name.size<=20/\p.value.size<=40)/\∀p∈v.styles,p.name.size<=20
inductive VG:VN->Prop
 | mk (v:VN) (h:VF v) (hk:∀k∈v.kids,VG k):VG v
theorem Wf(f:FL)(vs:List VN):VF { wG f with kids:=vs } :=by
 refine⟨Vt _ _,Vf _ _,Wc _ _,tI _ _,tI _ _,tI _ _,fun s hs=>?_,fun p hp=>?_,fun p hp=>?_⟩
 .obtain⟨x, -,rfl⟩:=aV.1 hs;exact tI _ _
 .obtain⟨x, -,rfl⟩:=aV.1 hp;exact⟨tI _ _,tI _ _⟩
 obtain⟨x, -,rfl⟩:=aV.1 hp;exact tI _ _
abbrev aSw(l:List FL)(i:Nat)(d:Int):Prop:=∀σ:List (List D),Ct prog 90 [.sl false (l.map Rc),D.int i,D.int d] σ (fun r σ'=>(∃(vs:List VN) (j:Nat),r= .tup [.sl false (vs.map oG),D.int j]/\i<=j/\j<=l.length/\(∀v∈vs,VG v)/\(vs.map cB).sum=j - i)/\σ'=σ)
theorem Wt(l:List FL)(i:Nat)(d:Int)(σ:List (List D))(hl:l.length<=25)(hf:∀f∈l,FO f)(hi:i<=l.length)(ih:∀(i2:Nat) (d2:Int),i<i2->i2<=l.length->aSw l i2 d2):Ct prog 90 [.sl false (l.map Rc),D.int i,D.int d] σ (fun r σ'=>(∃(vs:List VN) (j:Nat),r= .tup [.sl false (vs.map oG),D.int j]/\i<=j/\j<=l.length/\(∀v∈vs,VG v)/\(vs.map cB).sum=j - i)/\σ'=σ):=by
 refine zf func90 ?_;refine zr ⟨[8,41],[],[],[],[]⟩ fun _ _ Z=>?_;simp(disch:=omega);apply Z;refine zr ⟨[8,41],[],[],[],[]⟩ fun _ _ Z=>?_;simp(disch:=omega);apply Z;apply Od;refine zk [0,1,2,6,7,8] ?_;refine aY (fun(p:List VN×Nat)=> [(8,.d (.sl true (p.1.map oG))),(1,.d (.v (.int .i64 (p.2:Int)))),(9,.d (.any))]) [1,8,9,10,11,12,13,14,15,16,17,18,19,20,21,22,23,24,25,26,27,28,29,30,31,32,33,34,35,36,37,38,39,40,41,42,43,44] (fun(p:List VN×Nat)=>i<=p.2/\p.2<=l.length/\(∀v∈p.1,VG v)/\(p.1.map cB).sum=p.2 - i/\p.1.length<=p.2 - i) (fun(p:List VN×Nat)=>l.length - p.2) (([],i)) (by simp <;> rfl) ?_ ?_ ?_
 .simp
 .simp;omega
 rintro⟨vs,k⟩ ⟨h1,h2,h3,h4,h5⟩;simp only [aQ,aO];dsimp only at h1 h2 h3 h4 h5;apply aE;refine zk [0,1,2,6,7,8,9] ?_;refine mH ⟨[8,41],[],[],[],[]⟩ fun all hall _ Z=>?_;have ga4:aN all 4=some 14:=hall 4;refine zs 5 fun _ Y=>?_;simp(disch:=omega)[ga4];and_intros<;>(try omega);apply Y;refine zb 14 ?_ ?_<;>intro g1<;>try simp at g1
 .simp(disch:=omega)[ga4];and_intros<;>(try omega);apply Z;refine zI ?_ ?_<;>intro c2<;>try simp at c2
  .apply zA;apply aR;refine zk [0,1,2,6,7,8,9] ?_;refine zr ⟨[8,41],[],[],[],[]⟩ fun _ _ Z=>?_;refine zs 4 fun _ Y=>?_;simp(disch:=omega);and_intros<;>(try omega);apply Y;refine aF fun _ Y=>?_;simp(disch:=omega);refine cT (Rb l[k] _ (hf _ (bS _))) ?_;apply Y;simp(disch:=omega);apply Z;refine zk [0,1,2,6,7,8,9] ?_;refine zr ⟨[8,41],[],[],[],[]⟩ fun _ _ Z=>?_;refine zs 8 fun _ Y=>?_;simp(disch:=omega);and_intros<;>(try omega);apply Y;refine aF fun _ Y=>?_;simp(disch:=omega);refine Mo (ih (k+1) l[k].deep (by omega) (by omega) _) ?_;rintro _ τ1 ⟨⟨ws,j,hr,hj1,hj2,hg,hs⟩,hτ⟩;subst hr hτ;apply Y;simp(disch:=omega);apply Z;refine zk [0,1,2,6,7,8,9] ?_;refine zt ⟨[8,41],[],[],[],[]⟩ fun _ _ Z=>?_;simp(disch:=omega);and_intros<;>(try omega);apply Z;apply lL;refine zq ((vs++ [{ wG l[k] with kids:=ws }],j)) ?_ ?_ ?_
   .refine⟨by omega,hj2,fun v hv=>?_,?_,?_⟩
    .rcases bT.1 hv with hv | hv
     .exact h3 v hv
     rw [fS.1 hv];exact .mk _ (Wf _ _) hg
    .simp only [cE,Hm,cC,kP,iA,List.sum_nil,jC { wG l[k] with kids:=ws }];omega
    simp;omega
   .try dsimp only
    omega
   simp(disch:=omega)
  apply zE;refine zk [1,6,7,8] ?_;refine zr ⟨[8,41],[],[],[],[]⟩ fun _ _ Z=>?_;simp(disch:=omega);apply Z;apply aC;simp [aH];exact⟨vs,k,⟨rfl,rfl⟩,h1,h2,h3,h4⟩
 simp(disch:=omega)[ga4];apply Z;refine bA (t:=false) (by simp) (fun h=>by cases h) (fun _=>?_);apply zE;refine zk [1,6,7,8] ?_;refine zr ⟨[8,41],[],[],[],[]⟩ fun _ _ Z=>?_;simp(disch:=omega);apply Z;apply aC;simp [aH];exact⟨vs,k,⟨rfl,rfl⟩,h1,h2,h3,h4⟩
theorem Ld(l:List FL)(hl:l.length<=25)(hf:∀f∈l,FO f):∀(n i:Nat) (d:Int),l.length - i<=n->i<=l.length->aSw l i d
 | 0,i,d,hn,hi=>fun σ=>Wt l i d σ hl hf hi fun i2 d2 h1 h2=>absurd h2 (by omega)
 | n+1,i,d,hn,hi=>fun σ=>Wt l i d σ hl hf hi fun i2 d2 h1 h2=>Ld l hl hf n i2 d2 (by omega) h2
def Ez:VN:=⟨2,⟨#[112]⟩,⟨#[]⟩,⟨#[]⟩, [], [], [],⟨0,0,0,0,false,false⟩, []⟩
theorem aH7:VG Ez:= .mk _ ⟨by decide,by decide,by decide,by decide+kernel,by decide+kernel,by decide+kernel,(fun s h=>by cases h),(fun p h=>by cases h),(fun p h=>by cases h)⟩ fun k hk=>by cases hk
theorem aHu:cB Ez<=25:=by rw [jC];decide
theorem aSk(f:FL)(ws:List VN)(j:Nat)(hg:∀v∈ws,VG v)(hs:(ws.map cB).sum=j - 1)(hj:j<=25)(h1:1<=j):VG { wG f with kids:=ws } /\cB { wG f with kids:=ws } <=25:=by
 refine⟨.mk _ (Wf _ _) hg,?_⟩;rw [jC];simp only [];omega
theorem aNq(l:List FL)(n:Nat)(σ:List (List D))(hn:n<=25)(hl:l.length<=9223372036854775807)(hf:∀f∈l,FO f):Ct prog 27 [.sl false (l.map Rc),D.int n] σ (fun r σ'=>(r.plain=true/\∃v:VN,r.strip=iX v/\VG v/\cB v<=25)/\σ'=σ):=by
 refine zf func27 ?_;refine bB fun _ _ Z=>?_;simp(disch:=omega);apply Z;apply aE;refine bB fun _ _ Z=>?_;simp(disch:=omega);and_intros<;>(try omega);apply Z;refine zI ?_ ?_<;>intro c1<;>try simp at c1
 .refine pF fun _ _ Z=>?_;simp(disch:=omega);and_intros<;>(try omega);apply Z;apply fW;apply aE;rw [<- vH];obtain⟨L,hL⟩:∃L,L=l.take n:=⟨_,rfl⟩;rw [<- hL];have hLl:L.length<=25:=by rw [hL,bG];omega
  have hLf:∀f∈L,FO f:=by rw [hL];exact fun f hf2=>hf f (mD hf2)
  refine bB fun _ _ Z=>?_;simp(disch:=omega);and_intros<;>(try omega);apply Z;refine zI ?_ ?_<;>intro c2<;>try simp at c2
  .refine zk [0,4] ?_;refine bB fun _ _ Z=>?_;simp(disch:=omega);apply Z;apply aC;simp [aH];exact⟨Ez,by simp [Ez],aH7,aHu⟩
  apply zA;have hL0:0<L.length:=by
   rcases L with _ | ⟨a,b⟩
   .first | (simp at c2;done) | (simp at c3;done)
   simp
  refine zk [0,4] ?_;refine bB fun _ _ Z=>?_;refine zs 3 fun _ Y=>?_;simp(disch:=omega);and_intros<;>(try omega);apply Y;refine aF fun _ Y=>?_;simp(disch:=omega);refine cT (Rb L[0] _ (hLf _ (bS _))) ?_;apply Y;simp(disch:=omega);apply Z;refine bB fun _ _ Z=>?_;refine zs 5 fun _ Y=>?_;simp(disch:=omega);and_intros<;>(try omega);apply Y;refine aF fun _ Y=>?_;simp(disch:=omega);refine Mo (Ld L hLl hLf 25 1 L[0].deep (by omega) (by omega) _) ?_;rintro _ τ1 ⟨⟨ws,j,hr,hj1,hj2,hg,hs⟩,hτ⟩;subst hr hτ;apply Y;simp(disch:=omega);apply Z;refine zk [4,5] ?_;refine bB fun _ _ Z=>?_;simp(disch:=omega);apply Z;apply aC;simp [aH];exact⟨{ wG L[0] with kids:=ws },by simp,aSk _ ws j hg hs (by omega) (by omega)⟩
 apply zA;apply aE;obtain⟨L,hL⟩:∃L,L=l:=⟨_,rfl⟩;have hLl:L.length<=25:=by rw [hL];omega
 have hLf:∀f∈L,FO f:=by rw [hL];exact hf
 rw [<- hL];refine bB fun _ _ Z=>?_;simp(disch:=omega);and_intros<;>(try omega);apply Z;refine zI ?_ ?_<;>intro c3<;>try simp at c3
 .refine bB fun _ _ Z=>?_;simp(disch:=omega);apply Z;apply aC;simp [aH];exact⟨Ez,by simp [Ez],aH7,aHu⟩
 apply zA;have hL0:0<L.length:=by
  rcases L with _ | ⟨a,b⟩
  .first | (simp at c2;done) | (simp at c3;done)
  simp
 refine bB fun _ _ Z=>?_;refine zs 3 fun _ Y=>?_;simp(disch:=omega);and_intros<;>(try omega);apply Y;refine aF fun _ Y=>?_;simp(disch:=omega);refine cT (Rb L[0] _ (hLf _ (bS _))) ?_;apply Y;simp(disch:=omega);apply Z;refine zk [0,4,5] ?_;refine bB fun _ _ Z=>?_;refine zs 5 fun _ Y=>?_;simp(disch:=omega);and_intros<;>(try omega);apply Y;refine aF fun _ Y=>?_;simp(disch:=omega);refine Mo (Ld L hLl hLf 25 1 L[0].deep (by omega) (by omega) _) ?_;rintro _ τ1 ⟨⟨ws,j,hr,hj1,hj2,hg,hs⟩,hτ⟩;subst hr hτ;apply Y;simp(disch:=omega);apply Z;refine zk [4,5] ?_;refine bB fun _ _ Z=>?_;simp(disch:=omega);apply Z;apply aC;simp [aH];exact⟨{ wG L[0] with kids:=ws },by simp,aSk _ ws j hg hs (by omega) (by omega)⟩
theorem aPs(l:List FL)(n:Nat)(σ:List (List D))(hn:n<=25)(hl:l.length<=9223372036854775807)(hf:∀f∈l,FO f):Ct prog 27 [.sl false (l.map Rc),D.int n] σ (fun r σ'=>(∃v:VN,r=iX v/\VG v/\cB v<=25)/\σ'=σ):=
 (aNq l n σ hn hl hf).strip fun r σ' h=>⟨h.1.1,h.1.2,h.2⟩
def cV(v:VN):List D:= [D.int v.kind,D.str v.tag,D.str v.key,D.str v.text,.sl false (v.classes.map D.str),.sl false (v.attrs.map dA),.sl false (v.styles.map cQ),D.int v.opts.enter,D.int v.opts.leave,D.int v.opts.move,D.int v.opts.mode,D.bool v.opts.appear,D.bool v.opts.moves,.sl false (v.kids.map oG)]
theorem aX4(v:VN):(oG v).cells=cV v:=by rw [Tk];rfl
theorem qT(l:List VN):(l.map oG).flatMap D.cells=l.flatMap cV:=cX aX4 l
theorem xR(l:List VN):∀d∈l.map oG,d.ncells=14/\d.arr=true:=by
 intro d hd;obtain⟨a,_,rfl⟩:=aV.1 hd;rw [Tk];exact⟨rfl,rfl⟩
@[simp high] theorem Pd(l:List VN):(l.flatMap cV).length=l.length * 14:=dJ (f:=cV) (fun _=>rfl) l
theorem aSn(l:List VN)(rest:List D)(i j:Nat)(h:i<l.length)(hj:j<14):(l.flatMap cV++rest)[i * 14+j]?=(cV l[i])[j]?:=Ol (f:=cV) (k:=14) (fun _=>rfl) l rest i j h hj
def txt(v:VN)(s:ByteArray):VN:= { v with text:=s }
theorem aYc(l:List VN)(rest:List D)(i:Nat)(s:ByteArray)(h:i<l.length):(l.flatMap cV++rest).set (i * 14+3) (D.str s)=(l.set i (txt l[i] s)).flatMap cV++rest:=by
 have hp:=pN (f:=cV) (k:=14) (fun _=>rfl) l i h;rw [sY (f:=cV) l i h,sY (f:=cV) (l.set i (txt l[i] s)) i (by simpa using h),List.take_set_of_le (aW _),List.drop_set_of_lt (by omega),List.getElem_set_self];rw [bW,bW,bW,bW,<- hp,nS _ _ (by omega)];congr 1;rw [nN];rfl
def jH(k:VN):Bool:= !(decide (k.kind=1) && decide (k.text=⟨#[]⟩))
def oB(out:List VN)(k:VN):List VN:=match out.getLast? with
 | some p=>if p.kind=1/\k.kind=1 then out.set (out.length - 1) (txt p (p.text++k.text))else out++ [k]
 | none=>out++ [k]
def gW(l:List VN):List VN:=l.foldl oB []
theorem xD(l:List VN)(k:VN):gW (l++ [k])=oB (gW l) k:=by unfold gW;rw [jR];rfl
theorem Nm(o:List VN)(k:VN):(oB o k).length<=o.length+1:=by
 unfold oB;split
 .split <;> simp
 simp
theorem oV {o:List VN} {k:VN} (h:∀h:0<o.length,¬(o[o.length - 1].kind=1/\k.kind=1)):oB o k=o++ [k]:=by
 unfold oB;split
 .rename_i p hp;rw [Hb] at hp;obtain⟨h1,h2⟩:=aP.1 hp;rw [aD];rw [<- h2];exact h (by omega)
 rfl
theorem Bh {o:List VN} {k:VN} (h:0<o.length)(h1:o[o.length - 1].kind=1)(h2:k.kind=1):oB o k=o.set (o.length - 1) (txt o[o.length - 1] (o[o.length - 1].text++k.text)):=by
 unfold oB;rw [Hb,aS (by omega)];simp only [h1,h2,and_self,aU]
def cZ(v:VN):VN:= { v with classes:=bU v.classes,attrs:=iC nA v.attrs,styles:=iC nP v.styles,kids:=gW ((v.kids.attach.map fun k=>cZ k.1).filter jH) }
termination_by SizeOf.sizeOf v
decreasing_by
 have h:=mI k.2;cases v;simp at h |-;omega
theorem lC(v:VN):cZ v= { v with classes:=bU v.classes,attrs:=iC nA v.attrs,styles:=iC nP v.styles,kids:=gW ((v.kids.map cZ).filter jH) } :=by
 rw [cZ];simp
theorem Bq(v:VN):(cZ v).kind=v.kind:=by rw [lC]
theorem tM(v:VN):(cZ v).text=v.text:=by rw [lC]
theorem aFq(v:VN):jH (cZ v)=jH v:=by unfold jH;rw [Bq,tM]
theorem Po {B C:Nat} {o:List VN} {k:VN} (ho:∀x∈o,x.text.size<=B)(hk:k.text.size<=C):∀x∈oB o k,x.text.size<=B+C:=by
 intro x hx;unfold oB at hx;have hq:∀y,y∈o++ [k]->y.text.size<=B+C:=fun y hy=>by
  rcases bT.1 hy with h | h
  .have:=ho y h;omega
  rw [fS.1 h];omega
 split at hx
 .rename_i p hp;split at hx
  .rcases Qm hx with h | h
   .have:=ho x h;omega
   rw [h];have hm:p∈o:=List.mem_of_getLast? hp;have:=ho p hm;simp only [txt,ByteArray.size_append];omega
  exact hq x hx
 exact hq x hx
def Mn(v:VN)(j:Nat):List VN:=gW (((v.kids.take j).map cZ).filter jH)
theorem aMd(v:VN):Mn v 0= []:=rfl
theorem Jf(v:VN):∀j,(Mn v j).length<=j
 | 0=>by simp [aMd]
 | j + 1 => by
  by_cases h:j<v.kids.length
  .unfold Mn;rw [bL _ _ h,cE,fX,cC,kP];by_cases hk:jH (cZ v.kids[j])=true
   .rw [qC hk,lP,xD];have:=Nm (gW (((v.kids.take j).map cZ).filter jH)) (cZ v.kids[j]);have:=Jf v j;unfold Mn at this;omega
   rw [sH hk,lP,gH];have:=Jf v j;unfold Mn at this;omega
  have h1:=Jf v j;unfold Mn at h1 |-;rw [bZ (by omega)] at h1 |-;omega
theorem Uj {v:VN} (h:j<v.kids.length)(hk:jH (cZ v.kids[j])=false):Mn v (j+1)=Mn v j:=by
 unfold Mn;rw [bL _ _ h,cE,fX,cC,kP,sH (by simp [hk]),lP,gH]
theorem xK {v:VN} (h:j<v.kids.length)(hk:jH (cZ v.kids[j])=true):Mn v (j+1)=oB (Mn v j) (cZ v.kids[j]):=by
 unfold Mn;rw [bL _ _ h,cE,fX,cC,kP,qC hk,lP,xD]
theorem aDd {v:VN} {B:Nat} (h:∀k∈v.kids,k.text.size<=B):∀j,j<=v.kids.length->∀k∈Mn v j,k.text.size<=j * B
 | 0,_=>fun k hk=>by rw [aMd] at hk;cases hk
 | j + 1, hj => fun k hk => by
  have ih:=aDd h j (by omega);have eB:(j+1) * B=j * B+B:=vJ j B;rw [eB];cases e:jH (cZ v.kids[j])with
  | false=>rw [Uj (by omega) e] at hk;have:=ih k hk;omega
  | true=>
   rw [xK (by omega) e] at hk;exact Po ih (by rw [tM];exact h _ (bS _)) k hk
theorem aP6(v:VN):Mn v v.kids.length=(cZ v).kids:=by rw [lC];unfold Mn;rw [dY]
theorem aB4(l:List PI)(σ:List (List D))(hl:l.length<=999999):Ct prog 108 [.sl false (l.map cQ)] σ (fun r σ'=>r= .sl false ((iC nP l).map cQ)/\σ'=σ):=(Gc l σ hl).freeze fun r σ' h=>h
theorem aCf(l:List AT)(σ:List (List D))(hl:l.length<=999999):Ct prog 107 [.sl false (l.map dA)] σ (fun r σ'=>r= .sl false ((iC nA l).map dA)/\σ'=σ):=(Fv l σ hl).freeze fun r σ' h=>h
theorem iV(σ:List (List D))(k:Nat)(c:List D):(σ++(List.replicate k []++ [c]))[σ.length+k]?=some c:=by
 rw [bX (by omega),bX (by simp)];simp
theorem bD(σ:List (List D))(k:Nat)(c x:List D):(σ++(List.replicate k []++ [c])).set (σ.length+k) x=σ++(List.replicate k []++ [x]):=by
 rw [nS _ _ (by omega),nS _ _ (by simp)];simp
theorem pR(k:Nat):List.replicate k ([]:List D)++ [[]]=List.replicate (k+1) []:=(List.replicate_succ' ..).symm
abbrev VSz(v:VN):Prop:=v.classes.length<=9999/\v.attrs.length<=9999/\v.styles.length<=9999/\v.kids.length<=9999/\∀k∈v.kids,k.text.size<=9999
abbrev aSl(v:VN):Prop:=∀σ:List (List D),Ct prog 50 [iX v] σ (fun r σ'=>r=iX (cZ v)/\σ'=σ)
theorem aXi(ks:List VN)(rest:List D)(h:0<ks.length):(∀h',(ks.flatMap cV++rest)[(ks.length - 1) * 14]'h'=D.int ks[ks.length - 1].kind)/\∀h',(ks.flatMap cV++rest)[(ks.length - 1) * 14+3]'h'=D.str ks[ks.length - 1].text:=by
 refine⟨fun h'=>?_,fun h'=>?_⟩
 .have:=aSn ks rest (ks.length - 1) 0 (by omega) (by decide);rw [kK,aS h'] at this;simpa [cV] using this
 have:=aSn ks rest (ks.length - 1) 3 (by omega) (by decide);rw [aS h'] at this;simpa [cV] using this
theorem aW3(ks:List VN)(rest:List D)(h:0<ks.length)(s:ByteArray):List.take ((ks.length - 1) * 14+3) (ks.flatMap cV++rest)++D.str s::List.drop ((ks.length - 1) * 14+3+1) (ks.flatMap cV++rest)=(ks.set (ks.length - 1) (txt ks[ks.length - 1] s)).flatMap cV++rest:=by
 rw [<- aYc ks rest (ks.length - 1) s (by omega),Oq,aK];rw [aZ,Pd];omega
@[simp] abbrev q36_3:Cfg:=⟨[3,31],[],[],[29,55,62,68,34],[]⟩
theorem aI5 (v : VN) (σ : List (List D)) (h : VSz v) (ih : ∀ k ∈ v.kids, aSl k) : Ct prog 50 [iX v] σ (fun r σ' => (r.plain = true /\ r.strip = iX (cZ v)) /\ ∃ J, σ' = σ ++ J) := by
 refine zf func50 ?_;obtain⟨h1,h2,h3,h4,h5⟩:=h;refine zr q36_3 fun _ _ Z=>?_;simp(disch:=omega)[iV,bD];apply Z;refine zd q36_3 [.op {},.op {rL:=true},.pure,.op {},.op {rL:=true},.pure,.op {},.op {rL:=true},.pure,.op {},.op {rL:=true,wL:=true},.op {},.op {rL:=true,wL:=true},.op {},.op {rL:=true,wL:=true}] fun all hall _ Z=>?_;refine kF 2 fun _ Y=>?_;simp(disch:=omega)[iV,bD];apply Y;refine bY fun _ Y=>?_;simp(disch:=omega)[iV,bD];refine wI (fun _=>(Cu v.classes _ (by omega))) ?_;apply Y;refine kF 2 fun _ Y=>?_;simp(disch:=omega)[iV,bD];apply Y;refine bY fun _ Y=>?_;simp(disch:=omega)[iV,bD];refine wI (fun _=>(aCf v.attrs _ (by omega))) ?_;apply Y;refine kF 2 fun _ Y=>?_;simp(disch:=omega)[iV,bD];apply Y;refine bY fun _ Y=>?_;simp(disch:=omega)[iV,bD];refine wI (fun _=>(aB4 v.styles _ (by omega))) ?_;apply Y;simp(disch:=omega)[iV,bD];apply Z;refine zk [1,2] ?_;refine zr q36_3 fun _ _ Z=>?_;simp(disch:=omega)[iV,bD];apply Z;apply aE;refine zr q36_3 fun _ _ Z=>?_;simp(disch:=omega)[iV,bD];and_intros<;>(try omega);apply Z;apply aR;refine zk [1,2,3,20,21,22] ?_;refine Ch 3 14 (by simp <;> rfl) ?_;refine nW (fun(j:Nat)=> [(22,.d (.v (.int .i64 (j:Int)))),(3,.d (.xs 14 ((Mn v j).map oG))),(6,.d (.any))]) (fun(j:Nat)=> [[D.int v.kind,D.str v.tag,D.str v.key,D.str v.text,.sl true ((bU v.classes).map D.str),.sl false ((iC nA v.attrs).map dA),.sl false ((iC nP v.styles).map cQ),D.int v.opts.enter,D.int v.opts.leave,D.int v.opts.move,D.int v.opts.mode,D.bool v.opts.appear,D.bool v.opts.moves,.sl false (v.kids.map oG)], [D.int 0,D.str ⟨#[]⟩,D.str ⟨#[]⟩,D.str ⟨#[]⟩,.sl true [],.sl true [],.sl true [],D.int 0,D.int 0,D.int 0,D.int 0,D.bool false,D.bool false,.sl true []]]) (fun(j:Nat)=>σ++List.replicate j []) [3,5,6,22,23,24,25,26,27,28,29,30,31,32,33,34,35,36,37,38,39,40,41,42,43,44,45,46,47,48,49,50,51,52,53,54,55,56,57,58,59,60,61,62,63,64,65,66,67,68,69,70] (fun(j:Nat)=>j<=v.kids.length) (fun(j:Nat)=>v.kids.length - j) (0) (by simp <;> rfl) ?_ (by simp) (by simp) ?_ ?_
 .simp [aMd]
 .simp
 rintro j hj;simp only [aQ,aO];have hnl:=Jf v j;obtain⟨ks,hks⟩:∃ks,Mn v j=ks:=⟨_,rfl⟩;rw [hks] at hnl |-;refine iL 3 14 (by simp <;> rfl) (by decide) fun cap rest hcap hcm hrest hk0 hes=>?_;simp only [bQ] at hcap hrest |-;rw [qT];have hrl:rest.length=(cap - ks.length) * 14:=by rw [hrest,cR]
 clear hrest;have hdl:ks.length * 14+rest.length=cap * 14:=by omega
 have hdl2:(ks.flatMap cV++rest).length=cap * 14:=by rw [aZ,Pd];exact hdl
 simp only [aZ,cR,bW];refine zr q36_3 fun _ _ Z=>?_;simp(disch:=omega)[iV,bD];apply Z;apply aE;refine zI ?_ ?_<;>intro c1<;>try simp at c1
 .apply jM;refine zr q36_3 fun _ _ Z=>?_;simp (disch:=omega)[iV,bD];and_intros<;>(try omega);apply Z;refine zr q36_3 fun _ _ Z=>?_;refine zs 1 fun _ Y=>?_;simp (disch:=omega)[iV,bD];apply Y;refine aF fun _ Y=>?_;simp (disch:=omega)[iV,bD];refine cT (ih v.kids[j] (bS _) _) ?_;obtain ⟨q, hq⟩ : ∃ q, cZ v.kids[j] = q := ⟨_, rfl⟩;rw [hq];apply Y;simp (disch:=omega)[iV,bD];apply Z;refine zk [1,2,3,5,6,20,21,22] ?_;refine zr q36_3 fun _ _ Z=>?_;simp (disch:=omega)[iV,bD];and_intros<;>(try omega);apply Z;apply aR;refine zk [1,2,3,5,6,20,21,22] ?_;refine mH q36_3 fun all hall _ Z=>?_;have ga3 : aN all 3 = some 39 := hall 3;refine zs 4 fun _ Y=>?_;simp (disch:=omega)[iV,bD,ga3];apply Y;refine zb 39 ?_ ?_<;>intro g2<;>try simp at g2
  .simp (disch:=omega)[iV,bD,ga3];apply Z;refine zI ?_ ?_<;>intro c3<;>try simp at c3
   .have hnx:Mn v (j+1)=ks:=by rw [Uj c1 (by rw [hq];simp [jH,g2,c3]),hks]
    refine fI 3 14 (σ.length+j) ks.length cap ((ks).map oG) ((ks).flatMap cV++rest) (by simp <;> rfl) (by simp [iV]) (by decide) (by simp only [aZ,Pd,cK];omega) (by simp) (xR _) (by rw [qT];exact dC _ _) ?_;apply xN;apply lL;apply zB;refine zk [1,2,3,6,20,21,22] ?_;refine zt q36_3 fun _ _ Z=>?_;simp(disch:=omega)[iV,bD];and_intros<;>(try omega);apply Z;refine fB (j+1) ?_ ?_ (dW rfl ?_ (by simp) (by simp [pR]))
    .omega
    .try dsimp only
     omega
    simp(disch:=omega)[iV,bD,hnx]
   refine zk [1,2,3,5,6,20,21,22] ?_;refine mH q36_3 fun all hall _ Z=>?_;have ga3:aN all 3=some 48:=hall 3;have ga7:aN all 7=some 52:=hall 7;refine zs 4 fun _ Y=>?_;simp(disch:=omega)[iV,bD,ga3,ga7];apply Y;refine zb 48 ?_ ?_<;>intro g4<;>try simp at g4
   .refine zs 4 fun _ Y=>?_;simp(disch:=omega)[iV,bD,ga3,ga7];apply Y;refine zb 52 ?_ ?_<;>intro g5<;>try simp at g5
    .have hkp:jH q=true:=by simp [jH,c3]
     have hk1:0<ks.length:=by omega
     obtain⟨hr0,hr3⟩:=aXi ks rest hk1;simp(disch:=omega)[iV,bD,ga3,ga7,hr0,hr3];and_intros<;>(try omega);apply Z;refine zI ?_ ?_<;>intro c6<;>try simp at c6
     .have hnx:Mn v (j+1)=ks.set (ks.length - 1) (txt ks[ks.length - 1] (ks[ks.length - 1].text++q.text)):=by rw [xK c1 (by rw [hq];exact hkp),hks,hq,Bh hk1 c6 g2]
      have hsz:ks[ks.length - 1].text.size+q.text.size<=9223372036854775807:=by
        have ha:=aDd h5 j (by omega);rw [hks] at ha;have hj9:j * 9999<=9999 * 9999:=fO _ (by omega);have ha:=ha _ (bS (by omega:ks.length - 1<ks.length));have hb:=h5 v.kids[j] (bS _);rw [<- tM,hq] at hb;omega
      have hwr:=aW3 ks rest hk1 (ks[ks.length - 1].text++q.text);refine zk [1,2,3,5,6,20,21,22] ?_;refine ze q36_3 [.op {},.op {},.op {},.op {},.op {rO:=true},.op {},.op {rL:=true},.op {},.op {},.op {},.op {rO:=true,wO:=true}] fun all hall _ Z=>?_;refine kF 8 fun _ Y=>?_;simp(disch:=omega)[iV,bD,hr0,hr3,hwr];and_intros<;>(try omega);apply Y;simp(disch:=omega)[iV,bD,hr0,hr3,hwr];and_intros<;>(try omega);apply Z;apply lL;apply zB;refine fI 3 14 (σ.length+j) ks.length cap ((ks.set (ks.length - 1) (txt ks[ks.length - 1] (ks[ks.length - 1].text++q.text))).map oG) ((ks.set (ks.length - 1) (txt ks[ks.length - 1] (ks[ks.length - 1].text++q.text))).flatMap cV++rest) (by simp <;> rfl) (by simp [iV]) (by decide) (by simp only [aZ,Pd,cK];omega) (by simp) (xR _) (by rw [qT];exact dC _ _) ?_;refine zk [1,2,3,6,20,21,22] ?_;refine zt q36_3 fun _ _ Z=>?_;simp(disch:=omega)[iV,bD,hr0,hr3,hwr];and_intros<;>(try omega);apply Z;refine fB (j+1) ?_ ?_ (dW rfl ?_ (by simp) (by simp [pR]))
      .omega
      .try dsimp only
       omega
      simp(disch:=omega)[iV,bD,hnx,hr0,hr3,hwr]
     have hnx:Mn v (j+1)=ks++ [q]:=by rw [xK c1 (by rw [hq];exact hkp),hks,hq,oV fun _ h=>c6 h.1]
     refine zk [1,2,3,5,6,20,21,22] ?_;refine zt q36_3 fun _ _ Z=>?_;refine zs 4 fun _ Y=>?_;simp(disch:=omega)[iV,bD];refine⟨by first | rfl | exact⟨rfl,rfl⟩ | trivial,_,ks.map oG,⟨rfl,hdl2,by simp,xR ks,by rw [qT];exact dC _ _,by simp;omega,by simp [maxLen];omega⟩,?_⟩;and_intros<;>(try omega);apply Y;simp(disch:=omega)[iV,bD];apply Z;apply lL;apply zB;refine zk [1,2,3,6,20,21,22] ?_;refine zt q36_3 fun _ _ Z=>?_;simp(disch:=omega)[iV,bD];and_intros<;>(try omega);apply Z;refine fB (j+1) ?_ ?_ (dW rfl ?_ (by simp) (by simp [pR]))
     .omega
     .try dsimp only
      omega
     simp(disch:=omega)[iV,bD,hnx]
    have hkp:jH q=true:=by simp [jH,c3]
    have hnx:Mn v (j+1)=ks++ [q]:=by rw [xK c1 (by rw [hq];exact hkp),hks,hq,oV fun h _=>absurd h (by omega)]
    simp(disch:=omega)[iV,bD,ga3,ga7];apply Z;refine bA (t:=false) (by simp) (fun h=>by cases h) (fun _=>?_);refine zk [1,2,3,5,6,20,21,22] ?_;refine zt q36_3 fun _ _ Z=>?_;refine zs 4 fun _ Y=>?_;simp(disch:=omega)[iV,bD];refine⟨by first | rfl | exact⟨rfl,rfl⟩ | trivial,_,ks.map oG,⟨rfl,hdl2,by simp,xR ks,by rw [qT];exact dC _ _,by simp;omega,by simp [maxLen];omega⟩,?_⟩;and_intros<;>(try omega);apply Y;simp(disch:=omega)[iV,bD];apply Z;apply lL;apply zB;refine zk [1,2,3,6,20,21,22] ?_;refine zt q36_3 fun _ _ Z=>?_;simp(disch:=omega)[iV,bD];and_intros<;>(try omega);apply Z;refine fB (j+1) ?_ ?_ (dW rfl ?_ (by simp) (by simp [pR]))
    .omega
    .try dsimp only
     omega
    simp(disch:=omega)[iV,bD,hnx]
   exact absurd g2 g4
  have hnx:Mn v (j+1)=ks++ [q]:=by rw [xK c1 (by rw [hq];simp [jH,g2]),hks,hq,oV fun _ h=>g2 h.2]
  simp(disch:=omega)[iV,bD,ga3];apply Z;refine bA (t:=false) (by simp) (fun h=>by cases h) (fun _=>?_);refine zk [1,2,3,5,6,20,21,22] ?_;refine mH q36_3 fun all hall _ Z=>?_;have ga3:aN all 3=some 48:=hall 3;have ga7:aN all 7=some 52:=hall 7;refine zs 4 fun _ Y=>?_;simp(disch:=omega)[iV,bD,ga3,ga7];apply Y;refine zb 48 ?_ ?_<;>intro g7<;>try simp at g7
  .exact absurd g7 g2
  refine zs 4 fun _ Y=>?_;simp(disch:=omega)[iV,bD,ga3,ga7];apply Y;simp(disch:=omega)[iV,bD,ga3,ga7];apply Z;refine bA (t:=false) (by simp) (fun h=>by cases h) (fun _=>?_);refine zk [1,2,3,5,6,20,21,22] ?_;refine zt q36_3 fun _ _ Z=>?_;refine zs 4 fun _ Y=>?_;simp(disch:=omega)[iV,bD];refine⟨by first | rfl | exact⟨rfl,rfl⟩ | trivial,_,ks.map oG,⟨rfl,hdl2,by simp,xR ks,by rw [qT];exact dC _ _,by simp;omega,by simp [maxLen];omega⟩,?_⟩;and_intros<;>(try omega);apply Y;simp(disch:=omega)[iV,bD];apply Z;apply lL;apply zB;refine zk [1,2,3,6,20,21,22] ?_;refine zt q36_3 fun _ _ Z=>?_;simp(disch:=omega)[iV,bD];and_intros<;>(try omega);apply Z;refine fB (j+1) ?_ ?_ (dW rfl ?_ (by simp) (by simp [pR]))
  .omega
  .try dsimp only
   omega
  simp(disch:=omega)[iV,bD,hnx]
 obtain rfl:j=v.kids.length:=by omega
 apply zE;refine zr q36_3 fun _ _ Z=>?_;simp(disch:=omega)[iV,bD];apply Z;refine Hx 0 13 (σ.length+v.kids.length) ks.length cap 14 _ _ (ks.map oG) rfl rfl (by simp [iV]) (by decide) hdl2 (by simp) (xR _) (by rw [qT];exact dC _ _) ?_;simp only [fY,gD];refine zr q36_3 fun _ _ Z=>?_;simp(disch:=omega)[iV,bD];apply Z;apply aC;simp [aH];rw [lC,<- hks,aP6,lC];simp
theorem aC4(N:Nat)(v:VN):Sc N (iX v):=Sc.agg fun d hd=>by
 simp only [bM,gX,iB] at hd;rcases hd with rfl | rfl | rfl | rfl | rfl | rfl | rfl | rfl | rfl | rfl | rfl | rfl | rfl | rfl
 .exact Sc.v _
 .exact Sc.v _
 .exact Sc.v _
 .exact Sc.v _
 .exact Sc.sl (Sc.map fun a=>Sf _ a)
 .exact Sc.sl (Sc.map fun a=>Tc _ a)
 .exact Sc.sl (Sc.map fun a=>Rr _ a)
 .exact Sc.v _
 .exact Sc.v _
 .exact Sc.v _
 .exact Sc.v _
 .exact Sc.v _
 .exact Sc.v _
 refine Sc.sl fun d hd=>?_;obtain⟨k,hk,e⟩:=aV.1 hd;rw [<- e,Tk];exact aC4 N k
termination_by SizeOf.sizeOf v
decreasing_by
 have h:=mI hk;cases v;simp at h |-;omega
theorem dQ {v k:VN} (h:k∈v.kids):cB k+1<=cB v:=by
 rw [jC v];have:∀l:List VN,k∈l->cB k<=(l.map cB).sum:=by
  intro l;induction l with
  | nil=>intro h;cases h
  | cons a l ih=>
   intro h;simp only [cC,iA];rcases bM.1 h with rfl | h
   .omega
   have:=ih h;omega
 have:=this v.kids h;omega
theorem jV(v:VN):v.kids.length+1<=cB v:=by
 rw [jC v];have:∀l:List VN,l.length<=(l.map cB).sum:=by
  intro l;induction l with
  | nil=>simp
  | cons a l ih=>
   have:=jC a;simp only [cC,iA,bJ];omega
 have:=this v.kids;omega
theorem VG.f {v:VN} (h:VG v):VF v:=by cases h;assumption
theorem VG.k {v:VN} (h:VG v):∀k∈v.kids,VG k:=by cases h;assumption
theorem VG.sz {v:VN} (h:VG v)(hc:cB v<=9999):VSz v:=by
 obtain⟨a,b,c,d, -⟩:=h.f;have:=jV v;exact⟨by omega,by omega,by omega,by omega,fun k hk=>by have:=(h.k k hk).f.2.2.2.1;omega⟩
theorem Rp(v:VN)(h:VG v)(hc:cB v<=9999):aSl v:=fun σ=>
 have h1:Ct prog 50 [iX v] σ (fun r σ'=>r=iX (cZ v)/\∃J,σ'=σ++J):=(aI5 v σ (h.sz hc) fun k hk=>Rp k (h.k k hk) (by have:=dQ hk;omega)).strip fun r σ' h=>⟨h.1.1,h.1.2,h.2⟩
 h1.trim fun r σ' ⟨hr,J,hs⟩=>⟨σ,J,hs,rfl,by rw [hr];exact aC4 _ _,fun n cs h=> .inl h,hr,rfl⟩
termination_by cB v
decreasing_by
 have:=dQ hk;omega
theorem Ul {β:Type} {n1:α->ByteArray} {n2:β->ByteArray} {f:α->β} (h:∀a,n2 (f a)=n1 a):∀(l:List α) (p:α),(fU n1 l p).map f=fU n2 (l.map f) (f p)
 | [],p=>rfl
 | q::l,p=>by
  simp only [fU,cC,h];split
  .rw [cC,Ul h l p]
  split <;> simp
theorem aPu {β:Type} {n1:α->ByteArray} {n2:β->ByteArray} {f:α->β} (h:∀a,n2 (f a)=n1 a)(l:List α):(iC n1 l).map f=iC n2 (l.map f):=by
 have:∀(l o:List α),(l.foldl (fU n1) o).map f=(l.map f).foldl (fU n2) (o.map f):=by
  intro l;induction l with
  | nil=>intro o;rfl
  | cons a l ih=>intro o;simp only [dO,cC];rw [ih,Ul h]
 exact this l []
def Ag(l:List AT)(k:Nat):List PI:=(List.range k).map fun i=>⟨(l.getD i ⟨⟨#[]⟩,⟨#[]⟩⟩).name,i⟩
def Nk(l:List AT)(p:PI):AT:=⟨p.name,(l.getD p.value.toNat ⟨⟨#[]⟩,⟨#[]⟩⟩).value⟩
theorem aDj(l:List AT) {k:Nat} (h:k<l.length):Ag l (k+1)=Ag l k++ [⟨l[k].name,k⟩]:=by
 unfold Ag;rw [sJ,cE];simp [List.getD,h]
theorem Ll(l:List AT)(k:Nat):(Ag l k).length=k:=by simp [Ag]
theorem Co {nm:α->ByteArray} {l:List α} {x:α} (h:x∈iC nm l):x∈l:=by
 have:∀(l o:List α),x∈l.foldl (fU nm) o->x∈o\/x∈l:=by
  intro l;induction l with
  | nil=>intro o h;exact .inl h
  | cons a l ih =>
   intro o h;rcases ih _ h with h | h
   .rcases Dp nm h with rfl | h
    .exact .inr dH
    exact .inl h
   exact .inr (eV _ h)
 rcases this l [] h with h | h
 .cases h
 exact h
theorem aQa {l:List AT} {S:List PI} (hS:iC nP (Ag l l.length)=S) (hj:j<S.length):∃i:Nat,∃h:i<l.length,S[j].value=(i:Int)/\Nk l S[j]=l[i]:=by
 have h0:S[j]∈Ag l l.length:=by
  have:=bS hj;generalize S[j]=y at this |-;rw [<- hS] at this;exact Co this
 generalize S[j]=y at h0 |-;unfold Ag at h0;obtain⟨i,hi,e⟩:=aV.1 h0;have hi:=eG.1 hi;refine⟨i,hi,by rw [<- e],?_⟩;rw [<- e];simp [Nk,List.getD,hi]
def Rh(l:List AT)(S:List PI)(j:Nat):List AT:=(S.take j).map (Nk l)
theorem aH4(l:List AT)(S:List PI)(j:Nat):(Rh l S j).length<=j:=by unfold Rh;simp;omega
theorem aG0(l:List AT) {S:List PI} (h:j<S.length) {x:AT} (hx:Nk l S[j]=x):Rh l S (j+1)=Rh l S j++ [x]:=by
 unfold Rh;rw [bL S j h,cE,cC,kP,hx]
theorem aFr(l:List AT):(iC nP (Ag l l.length)).map (Nk l)=iC nA l:=by
 rw [aPu (n1:=nP) (n2:=nA) (fun _=>rfl)];congr 1;refine List.ext_getElem (by simp [Ag]) fun i h1 h2=>?_;simp [Ag,Nk,List.getD,h2]
@[simp] abbrev q36_4:Cfg:=⟨[2,3,6,17,33,42],[],[],[],[]⟩
theorem aEu(l:List AT)(σ:List (List D))(hl:l.length<=9999):Ct prog 97 [.sl false (l.map dA)] σ (fun r σ'=>r= .sl true ((iC nA l).map dA)/\σ'=σ):=by
 refine zf func97 ?_;refine zr q36_4 fun _ _ Z=>?_;simp(disch:=omega);apply Z;refine zr q36_4 fun _ _ Z=>?_;simp(disch:=omega);and_intros<;>(try omega);apply Z;apply aE;refine zr q36_4 fun _ _ Z=>?_;simp(disch:=omega);and_intros<;>(try omega);apply Z;apply aR;refine zk [0,2,3,10,11,12] ?_;refine aY (fun(k:Nat)=> [(12,.d (.v (.int .i64 (k:Int)))),(3,.d (.sl true ((Ag l k).map cQ))),(4,.d (.any)),(5,.d (.any))]) [3,4,5,12,13,14,15,16,17,18,19,20,21,22,23,24] (fun(k:Nat)=>k<=l.length) (fun(k:Nat)=>l.length - k) (0) (by simp <;> rfl) ?_ ?_ ?_
 .simp [Ag]
 .simp
 rintro k hk;simp only [aQ,aO];have hnl:=Ll l k;refine zr q36_4 fun _ _ Z=>?_;simp(disch:=omega);apply Z;apply aE;refine zI ?_ ?_<;>intro c1<;>try simp at c1
 .have hnx:=aDj l c1;apply jM;refine zr q36_4 fun _ _ Z=>?_;simp(disch:=omega);and_intros<;>(try omega);apply Z;refine zk [0,2,3,4,5,10,11,12] ?_;refine zt q36_4 fun _ _ Z=>?_;simp(disch:=omega);and_intros<;>(try omega);apply Z;apply zB;refine zk [0,2,3,4,5,10,11,12] ?_;refine zt q36_4 fun _ _ Z=>?_;simp(disch:=omega);and_intros<;>(try omega);apply Z;refine zq (k+1) ?_ ?_ ?_
  .omega
  .try dsimp only
   omega
  simp(disch:=omega)[hnx]
 obtain rfl:k=l.length:=by omega
 apply zE;refine zr q36_4 fun _ _ Z=>?_;simp(disch:=omega);and_intros<;>(try omega);apply Z;apply aE;refine zr q36_4 fun _ _ Z=>?_;refine zs 1 fun _ Y=>?_;simp(disch:=omega);apply Y;refine aF fun _ Y=>?_;simp(disch:=omega);refine cT (Ry (Ag l l.length) _ (by rw [Ll];omega)) ?_;obtain⟨S,hS⟩:∃S,iC nP (Ag l l.length)=S:=⟨_,rfl⟩;have hSl:S.length<=9999:=by rw [<- hS];have:=iI nP (Ag l l.length);rw [Ll] at this;omega
 rw [hS];apply Y;simp(disch:=omega);and_intros<;>(try omega);apply Z;apply aR;refine zk [0,2,6,27,28,29] ?_;refine aY (fun(j:Nat)=> [(29,.d (.v (.int .i64 (j:Int)))),(6,.d (.sl true ((Rh l S j).map dA))),(8,.d (.any))]) [6,8,29,30,31,32,33,34,35,36,37,38,39,40,41] (fun(j:Nat)=>j<=S.length) (fun(j:Nat)=>S.length - j) (0) (by simp <;> rfl) ?_ ?_ ?_
 .simp [Rh]
 .simp
 rintro j hj;simp only [aQ,aO];have hsl:=aH4 l S j;refine zr q36_4 fun _ _ Z=>?_;simp(disch:=omega);apply Z;apply aE;refine zI ?_ ?_<;>intro c2<;>try simp at c2
 .obtain⟨i,hil,hiv,hip⟩:=aQa hS c2;have hnx:=aG0 l c2 hip;apply jM;refine zr q36_4 fun _ _ Z=>?_;simp(disch:=omega)[hiv];and_intros<;>(try omega);apply Z;refine zt q36_4 fun _ _ Z=>?_;refine zs 8 fun _ Y=>?_;simp(disch:=omega)[hiv];and_intros<;>(try omega);apply Y;simp(disch:=omega)[hiv];apply Z;apply zB;refine zk [0,2,6,8,27,28,29] ?_;refine zt q36_4 fun _ _ Z=>?_;simp(disch:=omega)[hiv];and_intros<;>(try omega);apply Z;refine zq (j+1) ?_ ?_ ?_
  .omega
  .try dsimp only
   omega
  simp(disch:=omega)[hnx,hiv]
 obtain rfl:j=S.length:=by omega
 have hall:Rh l S S.length=iC nA l:=by unfold Rh;rw [dY,<- hS];exact aFr l
 apply zE;refine zr q36_4 fun _ _ Z=>?_;simp(disch:=omega);apply Z;apply aC;simp [aH,hall]
end Go.Proofs.YtbgfljpnhhdkoaaGreat
