import Derived.Test.YtbgfljpnhhdkoaaGreatVmX15
set_option linter.all false
set_option maxRecDepth 20000
set_option maxHeartbeats 8000000
open Go.Proofs.Tryz
namespace Go.Proofs.YtbgfljpnhhdkoaaGreat
open Go Go.Vm
variable {j:Nat}{α:Type}
structure OPT where
 enter:Int
 leave:Int
 move:Int
 mode:Int
 appear:Bool
 moves:Bool
 deriving DecidableEq
@[simp] abbrev aVw(s:OPT):D:= .agg [.v (.int .i64 s.enter),.v (.int .i64 s.leave),.v (.int .i64 s.move),.v (.int .i64 s.mode),.v (.bool s.appear),.v (.bool s.moves)]
structure FL where
 deep:Int
 kind:Int
 tag:ByteArray
 key:ByteArray
 text:ByteArray
 classes:(List ByteArray)
 attrs:(List AT)
 styles:(List PI)
 opts:OPT
 deriving DecidableEq
@[simp] abbrev Mg(s:FL):D:= .agg [.v (.int .i64 s.deep),.v (.int .i64 s.kind),.v (.string s.tag),.v (.string s.key),.v (.string s.text),.sl false (s.classes.map D.str),.sl false (s.attrs.map cW),.sl false (s.styles.map cQ),.v (.int .i64 s.opts.enter),.v (.int .i64 s.opts.leave),.v (.int .i64 s.opts.move),.v (.int .i64 s.opts.mode),.v (.bool s.opts.appear),.v (.bool s.opts.moves)]
@[simp] abbrev aZb(s:FL):D:= .agg [.v (.int .i64 s.deep),.v (.int .i64 s.kind),.v (.string s.tag),.v (.string s.key),.v (.string s.text),.sl true (s.classes.map D.str),.sl true (s.attrs.map cW),.sl true (s.styles.map cQ),.v (.int .i64 s.opts.enter),.v (.int .i64 s.opts.leave),.v (.int .i64 s.opts.move),.v (.int .i64 s.opts.mode),.v (.bool s.opts.appear),.v (.bool s.opts.moves)]
structure VN where
 kind:Int
 tag:ByteArray
 key:ByteArray
 text:ByteArray
 classes:(List ByteArray)
 attrs:(List AT)
 styles:(List PI)
 opts:OPT
 kids:(List VN)
def oF(s:VN):D:= .agg [.v (.int .i64 s.kind),.v (.string s.tag),.v (.string s.key),.v (.string s.text),.sl false (s.classes.map D.str),.sl false (s.attrs.map cW),.sl false (s.styles.map cQ),.v (.int .i64 s.opts.enter),.v (.int .i64 s.opts.leave),.v (.int .i64 s.opts.move),.v (.int .i64 s.opts.mode),.v (.bool s.opts.appear),.v (.bool s.opts.moves),.sl false (s.kids.attach.map fun k=>oF k.1)]
termination_by SizeOf.sizeOf s
decreasing_by
 have h:=nS k.2;cases s;simp at h |-;omega
@[simp] abbrev iH(s:VN):D:= .agg [.v (.int .i64 s.kind),.v (.string s.tag),.v (.string s.key),.v (.string s.text),.sl false (s.classes.map D.str),.sl false (s.attrs.map cW),.sl false (s.styles.map cQ),.v (.int .i64 s.opts.enter),.v (.int .i64 s.opts.leave),.v (.int .i64 s.opts.move),.v (.int .i64 s.opts.mode),.v (.bool s.opts.appear),.v (.bool s.opts.moves),.sl false (s.kids.map oF)]
@[simp] abbrev aZ5(s:VN):D:= .agg [.v (.int .i64 s.kind),.v (.string s.tag),.v (.string s.key),.v (.string s.text),.sl true (s.classes.map D.str),.sl true (s.attrs.map cW),.sl true (s.styles.map cQ),.v (.int .i64 s.opts.enter),.v (.int .i64 s.opts.leave),.v (.int .i64 s.opts.move),.v (.int .i64 s.opts.mode),.v (.bool s.opts.appear),.v (.bool s.opts.moves),.sl true (s.kids.map oF)]
@[simp] theorem Qv(s:VN):oF s=iH s:=by rw [oF];simp
def Gj(l:Ls)(n:Nat):Ls:=(l.take n).map (tN 20)
def aXw(p:PI):PI:=⟨tN 20 p.name,p.value⟩
def aX6(p:AT):AT:=⟨tN 20 p.name,tN 40 p.value⟩
def Dt(l:List PI)(n:Nat):List PI:=(l.take n).map aXw
def Jp(l:List AT)(n:Nat):List AT:=(l.take n).map aX6
theorem aFk(l:List ByteArray)(k:Nat)(h:k<l.length):Gj l (k+1)=Gj l k++ [tN 20 l[k]]:=by
 unfold Gj;rw [bN l k h,cN];rfl
theorem aS0(l:List ByteArray):Gj l 0= []:=rfl
theorem Ve(l:List ByteArray)(n:Nat):(Gj l n).length<=n:=by simp [Gj];omega
theorem aLr(l:List ByteArray)(k n:Nat)(h:l.length<=k)(hn:k<=n):Gj l k=Gj l n:=by
 unfold Gj;rw [bX h,bX (kV h hn)]
theorem aFi(l:List PI)(k:Nat)(h:k<l.length):Dt l (k+1)=Dt l k++ [⟨tN 20 l[k].name,l[k].value⟩]:=by
 unfold Dt;rw [bN l k h,cN];rfl
theorem aR1(l:List PI):Dt l 0= []:=rfl
theorem Te(l:List PI)(n:Nat):(Dt l n).length<=n:=by simp [Dt];omega
theorem aKg(l:List PI)(k n:Nat)(h:l.length<=k)(hn:k<=n):Dt l k=Dt l n:=by
 unfold Dt;rw [bX h,bX (kV h hn)]
theorem aC9(l:List AT)(k:Nat)(h:k<l.length):Jp l (k+1)=Jp l k++ [⟨tN 20 l[k].name,tN 40 l[k].value⟩]:=by
 unfold Jp;rw [bN l k h,cN];rfl
theorem aSq(l:List AT):Jp l 0= []:=rfl
theorem Wi(l:List AT)(n:Nat):(Jp l n).length<=n:=by simp [Jp];omega
theorem aJf(l:List AT)(k n:Nat)(h:l.length<=k)(hn:k<=n):Jp l k=Jp l n:=by
 unfold Jp;rw [bX h,bX (kV h hn)]
@[simp] abbrev q30_1:Cfg:=⟨[4,5,18,26],[],[],[],[]⟩
theorem aRx(l:Ls)(n:Nat)(σ:List (List D))(hl:l.length<=9223372036854775807)(hn:n<=1000000):Ct prog 169 [dl l,D.int n] σ (fun r σ'=>r= .sl true ((Gj l n).map D.str)/\σ'=σ):=by
 refine zf func169 ?_;refine zr q30_1 fun _ _ Z=>?_;simp(disch:=omega);apply Z;refine zr q30_1 fun _ _ Z=>?_;simp(disch:=omega);apply Z;apply aF;refine zr q30_1 fun _ _ Z=>?_;simp(disch:=omega);apply Z;apply aR;refine zk [0,1,4,5,6] ?_;refine aY (fun(k:Nat)=> [(6,.d (.int (k:Int))),(5,.d (.sl true ((Gj l k).map D.str)))]) [5,6,7,8,9,10,11,12,13,14,15,16,17,18,19,20,21,22,23,24,25] (fun(k:Nat)=>k<=l.length/\k<=n) (fun(k:Nat)=>l.length - k) (0) (by simp <;> rfl) ?_ ?_ ?_
 .simp [aS0]
 .simp
 rintro k ⟨hk,hn2⟩;simp only [aQ,aP];have hfl:=Ve l k;apply aF;refine lS q30_1 fun all hall _ Z=>?_;have ga4:aN all 4=some 11:=hall 4;refine zs 5 fun _ Y=>?_;simp(disch:=omega)[ga4];and_intros<;>(try omega);apply Y;refine zb 11 ?_ ?_<;>intro g1<;>try simp at g1
 .simp(disch:=omega)[ga4];apply Z;refine zI ?_ ?_<;>intro c2<;>try simp at c2
  .apply jY;refine zk [0,1,4,5,6] ?_;refine zt q30_1 fun _ _ Z=>?_;refine zs 5 fun _ Y=>?_;simp(disch:=omega);and_intros<;>(try omega);apply Y;refine aE fun _ Y=>?_;simp(disch:=omega);refine cH (Ax _ 20 _ (by omega)) ?_;apply Y;simp(disch:=omega);and_intros<;>(try omega);apply Z;apply zB;refine zk [0,1,4,5,6] ?_;refine zt q30_1 fun _ _ Z=>?_;simp(disch:=omega);and_intros<;>(try omega);apply Z;refine zq (k+1) ?_ ?_ ?_
   .omega
   .try dsimp only
    omega
   simp(disch:=omega)[aFk]
  apply zE;refine zk [4,5] ?_;refine zr q30_1 fun _ _ Z=>?_;simp(disch:=omega);apply Z;apply aC;simp [aI];rw [show k=n by omega]
 simp(disch:=omega)[ga4];apply Z;refine aX (t:=false) (by simp) (fun h=>by cases h) (fun _=>?_);apply zE;refine zk [4,5] ?_;refine zr q30_1 fun _ _ Z=>?_;simp(disch:=omega);apply Z;apply aC;simp [aI];rw [aLr l k n (by omega) (by omega)]
@[simp] abbrev q30_2:Cfg:=⟨[4,5,18,33],[],[],[],[]⟩
theorem aNo(l:List PI)(n:Nat)(σ:List (List D))(hl:l.length<=9223372036854775807)(hn:n<=1000000):Ct prog 170 [.sl false (l.map cQ),D.int n] σ (fun r σ'=>r= .sl true ((Dt l n).map cQ)/\σ'=σ):=by
 refine zf func170 ?_;refine zr q30_2 fun _ _ Z=>?_;simp(disch:=omega);apply Z;refine zr q30_2 fun _ _ Z=>?_;simp(disch:=omega);apply Z;apply aF;refine zr q30_2 fun _ _ Z=>?_;simp(disch:=omega);apply Z;apply aR;refine zk [0,1,4,5,6] ?_;refine aY (fun(k:Nat)=> [(6,.d (.int (k:Int))),(5,.d (.sl true ((Dt l k).map cQ)))]) [5,6,7,8,9,10,11,12,13,14,15,16,17,18,19,20,21,22,23,24,25,26,27,28,29,30,31,32] (fun(k:Nat)=>k<=l.length/\k<=n) (fun(k:Nat)=>l.length - k) (0) (by simp <;> rfl) ?_ ?_ ?_
 .simp [aR1]
 .simp
 rintro k ⟨hk,hn2⟩;simp only [aQ,aP];have hfl:=Te l k;apply aF;refine lS q30_2 fun all hall _ Z=>?_;have ga4:aN all 4=some 11:=hall 4;refine zs 5 fun _ Y=>?_;simp(disch:=omega)[ga4];and_intros<;>(try omega);apply Y;refine zb 11 ?_ ?_<;>intro g1<;>try simp at g1
 .simp(disch:=omega)[ga4];apply Z;refine zI ?_ ?_<;>intro c2<;>try simp at c2
  .apply jY;refine zk [0,1,4,5,6] ?_;refine ze q30_2 [.op {},.op {},.op {},.op {},.op {},.op {},.pure,.op {},.op {},.op {},.op {},.op {},.op {},.op {},.op {},.op {}] fun all hall _ Z=>?_;refine lM 6 fun _ Y=>?_;simp(disch:=omega);and_intros<;>(try omega);apply Y;refine bV fun _ Y=>?_;simp(disch:=omega);refine xH (fun _=>(Ax _ 20 _ (by omega))) ?_;apply Y;refine lM 8 fun _ Y=>?_;simp(disch:=omega);and_intros<;>(try omega);apply Y;simp(disch:=omega);apply Z;apply zB;refine zk [0,1,4,5,6] ?_;refine zt q30_2 fun _ _ Z=>?_;simp(disch:=omega);and_intros<;>(try omega);apply Z;refine zq (k+1) ?_ ?_ ?_
   .omega
   .try dsimp only
    omega
   simp(disch:=omega)[aFi]
  apply zE;refine zk [4,5] ?_;refine zr q30_2 fun _ _ Z=>?_;simp(disch:=omega);apply Z;apply aC;simp [aI];rw [show k=n by omega]
 simp(disch:=omega)[ga4];apply Z;refine aX (t:=false) (by simp) (fun h=>by cases h) (fun _=>?_);apply zE;refine zk [4,5] ?_;refine zr q30_2 fun _ _ Z=>?_;simp(disch:=omega);apply Z;apply aC;simp [aI];rw [aKg l k n (by omega) (by omega)]
def vR(f:FL):VN:=⟨f.kind,tN 20 f.tag,tN 20 f.key,tN 70 f.text,Gj f.classes 4,Jp f.attrs 4,Dt f.styles 4,f.opts, []⟩
abbrev FO(f:FL):Prop:=f.classes.length<=9223372036854775807/\f.attrs.length<=9223372036854775807/\f.styles.length<=9223372036854775807
theorem aH1(f:FL)(σ:List (List D))(h:FO f):Ct prog 89 [Mg f] σ (fun r σ'=>r=iH (vR f)/\∃J,σ'=σ++J):=by
 refine zf func89 ?_;have h5:=h.1;have h6:=h.2.1;have h7:=h.2.2;refine zr ⟨[37],[],[3],[],[]⟩ fun _ _ Z=>?_;simp(disch:=omega)[bI,aJ,aV,aG];apply Z;refine zd ⟨[37],[],[3],[],[]⟩ [.op {},.op {rL:=true},.op {},.op {rL:=true},.pure,.op {},.op {rL:=true},.pure,.op {},.op {rL:=true},.pure,.op {},.op {rL:=true},.pure,.op {},.op {rL:=true},.pure,.op {},.op {rL:=true},.op {},.op {rO:=true,wO:=true},.op {rO:=true,wO:=true}] fun all hall _ Z=>?_;refine lM 4 fun _ Y=>?_;simp(disch:=omega)[bI,aJ,aV,aG];apply Y;refine bV fun _ Y=>?_;simp(disch:=omega)[bI,aJ,aV,aG];refine xH (fun _=>(Ax f.tag 20 _ (by omega))) ?_;apply Y;refine lM 2 fun _ Y=>?_;simp(disch:=omega)[bI,aJ,aV,aG];apply Y;refine bV fun _ Y=>?_;simp(disch:=omega)[bI,aJ,aV,aG];refine xH (fun _=>(Ax f.key 20 _ (by omega))) ?_;apply Y;refine lM 2 fun _ Y=>?_;simp(disch:=omega)[bI,aJ,aV,aG];apply Y;refine bV fun _ Y=>?_;simp(disch:=omega)[bI,aJ,aV,aG];refine xH (fun _=>(Ax f.text 70 _ (by omega))) ?_;apply Y;refine lM 2 fun _ Y=>?_;simp(disch:=omega)[bI,aJ,aV,aG];apply Y;refine bV fun _ Y=>?_;simp(disch:=omega)[bI,aJ,aV,aG];refine xH (fun _=>(aRx f.classes 4 _ h5 (by omega))) ?_;apply Y;refine lM 2 fun _ Y=>?_;simp(disch:=omega)[bI,aJ,aV,aG];apply Y;refine bV fun _ Y=>?_;simp(disch:=omega)[bI,aJ,aV,aG];refine xH (fun _=>(aNo f.styles 4 _ h7 (by omega))) ?_;apply Y;simp(disch:=omega)[bI,aJ,aV,aG];and_intros<;>(try omega);apply Z;apply aF;refine zk [1,2,3] ?_;refine zr ⟨[37],[],[3],[],[]⟩ fun _ _ Z=>?_;simp(disch:=omega)[bI,aJ,aV,aG];apply Z;apply aR;refine zk [1,2,3,4] ?_;refine kE (fun(k:Nat)=> [(4,.d (.v (.int .i64 (k:Int))))]) (fun(k:Nat)=> []) (fun(k:Nat)=> [(σ.length, [D.int f.kind,D.str (tN 20 f.tag),D.str (tN 20 f.key),D.str (tN 70 f.text),.sl false ((Gj f.classes 4).map D.str),.sl true ((Jp f.attrs k).map cW),.sl false ((Dt f.styles 4).map cQ),D.int f.opts.enter,D.int f.opts.leave,D.int f.opts.move,D.int f.opts.mode,D.bool f.opts.appear,D.bool f.opts.moves,.sl true []])]) [4,25,26,27,28,29,30,31,32,33,34,35,36,37,38,39,40,41,42,43,44,45,46,47,48,49,50,51,52,53,54,55] (fun(k:Nat)=>k<=f.attrs.length/\k<=4) (fun(k:Nat)=>f.attrs.length - k) (0) (by simp <;> rfl) ?_ (by simp) (by simp [aJ,aSq]) ?_ ?_
 .simp
 .simp
 rintro k ⟨hk,hk4⟩;simp only [aQ,aP,lJ,jS,gE,fV];have hfl:=Wi f.attrs k;apply aF;refine lS ⟨[37],[],[3],[],[]⟩ fun all hall _ Z=>?_;have ga5:aN all 5=some 30:=hall 5;refine zs 6 fun _ Y=>?_;simp(disch:=omega)[bI,aJ,aV,aG,ga5];and_intros<;>(try omega);apply Y;refine zb 30 ?_ ?_<;>intro g1<;>try simp at g1
 .simp(disch:=omega)[bI,aJ,aV,aG,ga5];apply Z;refine zI ?_ ?_<;>intro c2<;>try simp at c2
  .apply jY;refine zk [1,2,3,4] ?_;refine ze ⟨[37],[],[3],[],[]⟩ [.op {},.op {rO:=true,wO:=true},.op {},.op {rL:=true},.op {},.op {},.op {},.op {},.pure,.op {},.op {rL:=true},.op {},.op {},.op {},.op {},.pure,.op {},.op {},.op {},.op {},.op {rO:=true,wO:=true}] fun all hall _ Z=>?_;refine lM 8 fun _ Y=>?_;simp(disch:=omega)[bI,aJ,aV,aG];and_intros<;>(try omega);apply Y;refine bV fun _ Y=>?_;simp(disch:=omega)[bI,aJ,aV,aG];refine xH (fun _=>(Ax f.attrs[k].name 20 _ (by omega))) ?_;apply Y;refine lM 6 fun _ Y=>?_;simp(disch:=omega)[bI,aJ,aV,aG];and_intros<;>(try omega);apply Y;refine bV fun _ Y=>?_;simp(disch:=omega)[bI,aJ,aV,aG];refine xH (fun _=>(Ax f.attrs[k].value 40 _ (by omega))) ?_;apply Y;simp(disch:=omega)[bI,aJ,aV,aG];and_intros<;>(try omega);apply Z;apply zB;refine zk [1,2,3,4] ?_;refine zt ⟨[37],[],[3],[],[]⟩ fun _ _ Z=>?_;simp(disch:=omega)[bI,aJ,aV,aG];and_intros<;>(try omega);apply Z;refine fC (k+1) ?_ ?_ (dU rfl ?_ (by simp) (by simp [aC9,aJ, *]))
   .omega
   .try dsimp only
    omega
   simp(disch:=omega)[bI,aJ,aV,aG]
  apply zE;refine zk [2,3] ?_;refine zr ⟨[37],[],[3],[],[]⟩ fun _ _ Z=>?_;simp(disch:=omega)[bI,aJ,aV,aG];apply Z;apply aC;simp [aI,vR];rw [show k=4 by omega]
 simp(disch:=omega)[bI,aJ,aV,aG,ga5];apply Z;refine aX (t:=false) (by simp) (fun h=>by cases h) (fun _=>?_);apply zE;refine zk [2,3] ?_;refine zr ⟨[37],[],[3],[],[]⟩ fun _ _ Z=>?_;simp(disch:=omega)[bI,aJ,aV,aG];apply Z;apply aC;simp [aI,vR];rw [aJf f.attrs k 4 (by omega) (by omega)]
theorem Ry(N:Nat)(x:ByteArray):Sc N (D.str x):=Sc.v _
theorem Qj(N:Nat)(x:AT):Sc N (cW x):=Sc.agg fun d hd=>by
 simp at hd;rcases hd with rfl | rfl <;> exact Sc.v _
theorem Qq(N:Nat)(x:PI):Sc N (cQ x):=Sc.agg fun d hd=>by
 simp at hd;rcases hd with rfl | rfl <;> exact Sc.v _
theorem aN5(N:Nat)(f:FL):Sc N (iH (vR f)):=Sc.agg fun d hd=>by
 simp only [bP,gY,gZ] at hd;rcases hd with rfl | rfl | rfl | rfl | rfl | rfl | rfl | rfl | rfl | rfl | rfl | rfl | rfl | rfl <;> first
  | exact Sc.v _
  | exact Sc.sl (Sc.map fun a=>Ry _ a)
  | exact Sc.sl (Sc.map fun a=>Qj _ a)
  | exact Sc.sl (Sc.map fun a=>Qq _ a)
  | exact Sc.sl fun d hd=>by cases hd
theorem Rm(f:FL)(σ:List (List D))(h:FO f):Ct prog 89 [Mg f] σ (fun r σ'=>r=iH (vR f)/\σ'=σ):=
 (aH1 f σ h).trim fun r σ' ⟨hr,J,hs⟩=>⟨σ,J,hs,rfl,by rw [hr];exact aN5 _ _,fun n cs h=> .inl h,hr,rfl⟩
def cT(v:VN):Nat:=1+(v.kids.attach.map fun k=>cT k.1).sum
termination_by SizeOf.sizeOf v
decreasing_by
 have h:=nS k.2;cases v;simp at h |-;omega
theorem jW(v:VN):cT v=1+(v.kids.map cT).sum:=by rw [cT];simp
abbrev VF(v:VN):Prop:=v.classes.length<=4/\v.attrs.length<=4/\v.styles.length<=4/\v.text.size<=70/\v.tag.size<=20/\v.key.size<=20/\(∀s∈v.classes,s.size<=20)/\(∀p∈v.attrs,p.name.size<=20/\p.value.size<=40)/\∀p∈v.styles,p.name.size<=20
inductive VG:VN->Prop
 | mk (v:VN) (h:VF v) (hk:∀k∈v.kids,VG k):VG v
theorem Wj(f:FL)(vs:List VN):VF { vR f with kids:=vs } :=by
 refine⟨Ve _ _,Wi _ _,Te _ _,sJ _ _,sJ _ _,sJ _ _,fun s hs=>?_,fun p hp=>?_,fun p hp=>?_⟩
 .obtain⟨x, -,rfl⟩:=aU.1 hs;exact sJ _ _
 .obtain⟨x, -,rfl⟩:=aU.1 hp;exact⟨sJ _ _,sJ _ _⟩
 obtain⟨x, -,rfl⟩:=aU.1 hp;exact sJ _ _
abbrev aQ9(l:List FL)(i:Nat)(d:Int):Prop:=∀σ:List (List D),Ct prog 90 [.sl false (l.map Mg),D.int i,D.int d] σ (fun r σ'=>(∃(vs:List VN) (j:Nat),r= .tup [.sl false (vs.map oF),D.int j]/\i<=j/\j<=l.length/\(∀v∈vs,VG v)/\(vs.map cT).sum=j - i)/\σ'=σ)
theorem Uc(l:List FL)(i:Nat)(d:Int)(σ:List (List D))(hl:l.length<=25)(hf:∀f∈l,FO f)(hi:i<=l.length)(ih:∀(i2:Nat) (d2:Int),i<i2->i2<=l.length->aQ9 l i2 d2):Ct prog 90 [.sl false (l.map Mg),D.int i,D.int d] σ (fun r σ'=>(∃(vs:List VN) (j:Nat),r= .tup [.sl false (vs.map oF),D.int j]/\i<=j/\j<=l.length/\(∀v∈vs,VG v)/\(vs.map cT).sum=j - i)/\σ'=σ):=by
 refine zf func90 ?_;refine zr ⟨[8,41],[],[],[],[]⟩ fun _ _ Z=>?_;simp(disch:=omega);apply Z;refine zr ⟨[8,41],[],[],[],[]⟩ fun _ _ Z=>?_;simp(disch:=omega);apply Z;apply Sy;refine zk [0,1,2,6,7,8] ?_;refine aY (fun(p:List VN×Nat)=> [(8,.d (.sl true (p.1.map oF))),(1,.d (.v (.int .i64 (p.2:Int)))),(9,.d (.any))]) [1,8,9,10,11,12,13,14,15,16,17,18,19,20,21,22,23,24,25,26,27,28,29,30,31,32,33,34,35,36,37,38,39,40,41,42,43,44] (fun(p:List VN×Nat)=>i<=p.2/\p.2<=l.length/\(∀v∈p.1,VG v)/\(p.1.map cT).sum=p.2 - i/\p.1.length<=p.2 - i) (fun(p:List VN×Nat)=>l.length - p.2) (([],i)) (by simp <;> rfl) ?_ ?_ ?_
 .simp
 .simp;omega
 rintro⟨vs,k⟩ ⟨h1,h2,h3,h4,h5⟩;simp only [aQ,aP];dsimp only at h1 h2 h3 h4 h5;apply aF;refine zk [0,1,2,6,7,8,9] ?_;refine lS ⟨[8,41],[],[],[],[]⟩ fun all hall _ Z=>?_;have ga4:aN all 4=some 14:=hall 4;refine zs 5 fun _ Y=>?_;simp(disch:=omega)[ga4];and_intros<;>(try omega);apply Y;refine zb 14 ?_ ?_<;>intro g1<;>try simp at g1
 .simp(disch:=omega)[ga4];and_intros<;>(try omega);apply Z;refine zI ?_ ?_<;>intro c2<;>try simp at c2
  .apply zA;apply aR;refine zk [0,1,2,6,7,8,9] ?_;refine zr ⟨[8,41],[],[],[],[]⟩ fun _ _ Z=>?_;refine zs 4 fun _ Y=>?_;simp(disch:=omega);and_intros<;>(try omega);apply Y;refine aE fun _ Y=>?_;simp(disch:=omega);refine cH (Rm l[k] _ (hf _ (cB _))) ?_;apply Y;simp(disch:=omega);apply Z;refine zk [0,1,2,6,7,8,9] ?_;refine zr ⟨[8,41],[],[],[],[]⟩ fun _ _ Z=>?_;refine zs 8 fun _ Y=>?_;simp(disch:=omega);and_intros<;>(try omega);apply Y;refine aE fun _ Y=>?_;simp(disch:=omega);refine Jl (ih (k+1) l[k].deep (by omega) (by omega) _) ?_;rintro _ τ1 ⟨⟨ws,j,hr,hj1,hj2,hg,hs⟩,hτ⟩;subst hr hτ;apply Y;simp(disch:=omega);apply Z;refine zk [0,1,2,6,7,8,9] ?_;refine zt ⟨[8,41],[],[],[],[]⟩ fun _ _ Z=>?_;simp(disch:=omega);and_intros<;>(try omega);apply Z;apply kY;refine zq ((vs++ [{ vR l[k] with kids:=ws }],j)) ?_ ?_ ?_
   .refine⟨by omega,hj2,fun v hv=>?_,?_,?_⟩
    .rcases bQ.1 hv with hv | hv
     .exact h3 v hv
     rw [fP.1 hv];exact .mk _ (Wj _ _) hg
    .simp only [cN,Eb,cD,kU,jQ,List.sum_nil,jW { vR l[k] with kids:=ws }];omega
    simp;omega
   .try dsimp only
    omega
   simp(disch:=omega)
  apply zE;refine zk [1,6,7,8] ?_;refine zr ⟨[8,41],[],[],[],[]⟩ fun _ _ Z=>?_;simp(disch:=omega);apply Z;apply aC;simp [aI];exact⟨vs,k,⟨rfl,rfl⟩,h1,h2,h3,h4⟩
 simp(disch:=omega)[ga4];apply Z;refine aX (t:=false) (by simp) (fun h=>by cases h) (fun _=>?_);apply zE;refine zk [1,6,7,8] ?_;refine zr ⟨[8,41],[],[],[],[]⟩ fun _ _ Z=>?_;simp(disch:=omega);apply Z;apply aC;simp [aI];exact⟨vs,k,⟨rfl,rfl⟩,h1,h2,h3,h4⟩
theorem Lh(l:List FL)(hl:l.length<=25)(hf:∀f∈l,FO f):∀(n i:Nat) (d:Int),l.length - i<=n->i<=l.length->aQ9 l i d
 | 0,i,d,hn,hi=>fun σ=>Uc l i d σ hl hf hi fun i2 d2 h1 h2=>absurd h2 (by omega)
 | n+1,i,d,hn,hi=>fun σ=>Uc l i d σ hl hf hi fun i2 d2 h1 h2=>Lh l hl hf n i2 d2 (by omega) h2
def Ee:VN:=⟨2,⟨#[112]⟩,⟨#[]⟩,⟨#[]⟩, [], [], [],⟨0,0,0,0,false,false⟩, []⟩
theorem aM1:VG Ee:= .mk _ ⟨by decide,by decide,by decide,by decide+kernel,by decide+kernel,by decide+kernel,(fun s h=>by cases h),(fun p h=>by cases h),(fun p h=>by cases h)⟩ fun k hk=>by cases hk
theorem aM2:cT Ee<=25:=by rw [jW];decide
theorem aQ4(f:FL)(ws:List VN)(j:Nat)(hg:∀v∈ws,VG v)(hs:(ws.map cT).sum=j - 1)(hj:j<=25)(h1:1<=j):VG { vR f with kids:=ws } /\cT { vR f with kids:=ws } <=25:=by
 refine⟨.mk _ (Wj _ _) hg,?_⟩;rw [jW];simp only [];omega
theorem aI5(l:List FL)(n:Nat)(σ:List (List D))(hn:n<=25)(hl:l.length<=9223372036854775807)(hf:∀f∈l,FO f):Ct prog 27 [.sl false (l.map Mg),D.int n] σ (fun r σ'=>(r.plain=true/\∃v:VN,r.strip=iH v/\VG v/\cT v<=25)/\σ'=σ):=by
 refine zf func27 ?_;refine aZ fun _ _ Z=>?_;simp(disch:=omega);apply Z;apply aF;refine aZ fun _ _ Z=>?_;simp(disch:=omega);and_intros<;>(try omega);apply Z;refine zI ?_ ?_<;>intro c1<;>try simp at c1
 .refine pB fun _ _ Z=>?_;simp(disch:=omega);and_intros<;>(try omega);apply Z;apply fH;apply aF;rw [<- uG];obtain⟨L,hL⟩:∃L,L=l.take n:=⟨_,rfl⟩;rw [<- hL];have hLl:L.length<=25:=by rw [hL,bE];omega
  have hLf:∀f∈L,FO f:=by rw [hL];exact fun f hf2=>hf f (mD hf2)
  refine aZ fun _ _ Z=>?_;simp(disch:=omega);and_intros<;>(try omega);apply Z;refine zI ?_ ?_<;>intro c2<;>try simp at c2
  .refine zk [0,4] ?_;refine aZ fun _ _ Z=>?_;simp(disch:=omega);apply Z;apply aC;simp [aI];exact⟨Ee,by simp [Ee],aM1,aM2⟩
  apply zA;have hL0:0<L.length:=by
   rcases L with _ | ⟨a,b⟩
   .first | (simp at c2;done) | (simp at c3;done)
   simp
  refine zk [0,4] ?_;refine aZ fun _ _ Z=>?_;refine zs 3 fun _ Y=>?_;simp(disch:=omega);and_intros<;>(try omega);apply Y;refine aE fun _ Y=>?_;simp(disch:=omega);refine cH (Rm L[0] _ (hLf _ (cB _))) ?_;apply Y;simp(disch:=omega);apply Z;refine aZ fun _ _ Z=>?_;refine zs 5 fun _ Y=>?_;simp(disch:=omega);and_intros<;>(try omega);apply Y;refine aE fun _ Y=>?_;simp(disch:=omega);refine Jl (Lh L hLl hLf 25 1 L[0].deep (by omega) (by omega) _) ?_;rintro _ τ1 ⟨⟨ws,j,hr,hj1,hj2,hg,hs⟩,hτ⟩;subst hr hτ;apply Y;simp(disch:=omega);apply Z;refine zk [4,5] ?_;refine aZ fun _ _ Z=>?_;simp(disch:=omega);apply Z;apply aC;simp [aI];exact⟨{ vR L[0] with kids:=ws },by simp,aQ4 _ ws j hg hs (by omega) (by omega)⟩
 apply zA;apply aF;obtain⟨L,hL⟩:∃L,L=l:=⟨_,rfl⟩;have hLl:L.length<=25:=by rw [hL];omega
 have hLf:∀f∈L,FO f:=by rw [hL];exact hf
 rw [<- hL];refine aZ fun _ _ Z=>?_;simp(disch:=omega);and_intros<;>(try omega);apply Z;refine zI ?_ ?_<;>intro c3<;>try simp at c3
 .refine aZ fun _ _ Z=>?_;simp(disch:=omega);apply Z;apply aC;simp [aI];exact⟨Ee,by simp [Ee],aM1,aM2⟩
 apply zA;have hL0:0<L.length:=by
  rcases L with _ | ⟨a,b⟩
  .first | (simp at c2;done) | (simp at c3;done)
  simp
 refine aZ fun _ _ Z=>?_;refine zs 3 fun _ Y=>?_;simp(disch:=omega);and_intros<;>(try omega);apply Y;refine aE fun _ Y=>?_;simp(disch:=omega);refine cH (Rm L[0] _ (hLf _ (cB _))) ?_;apply Y;simp(disch:=omega);apply Z;refine zk [0,4,5] ?_;refine aZ fun _ _ Z=>?_;refine zs 5 fun _ Y=>?_;simp(disch:=omega);and_intros<;>(try omega);apply Y;refine aE fun _ Y=>?_;simp(disch:=omega);refine Jl (Lh L hLl hLf 25 1 L[0].deep (by omega) (by omega) _) ?_;rintro _ τ1 ⟨⟨ws,j,hr,hj1,hj2,hg,hs⟩,hτ⟩;subst hr hτ;apply Y;simp(disch:=omega);apply Z;refine zk [4,5] ?_;refine aZ fun _ _ Z=>?_;simp(disch:=omega);apply Z;apply aC;simp [aI];exact⟨{ vR L[0] with kids:=ws },by simp,aQ4 _ ws j hg hs (by omega) (by omega)⟩
theorem aB7(l:List FL)(n:Nat)(σ:List (List D))(hn:n<=25)(hl:l.length<=9223372036854775807)(hf:∀f∈l,FO f):Ct prog 27 [.sl false (l.map Mg),D.int n] σ (fun r σ'=>(∃v:VN,r=iH v/\VG v/\cT v<=25)/\σ'=σ):=
 (aI5 l n σ hn hl hf).strip fun r σ' h=>⟨h.1.1,h.1.2,h.2⟩
def cV(v:VN):List D:= [D.int v.kind,D.str v.tag,D.str v.key,D.str v.text,.sl false (v.classes.map D.str),.sl false (v.attrs.map cW),.sl false (v.styles.map cQ),D.int v.opts.enter,D.int v.opts.leave,D.int v.opts.move,D.int v.opts.mode,D.bool v.opts.appear,D.bool v.opts.moves,.sl false (v.kids.map oF)]
theorem aVp(v:VN):(oF v).cells=cV v:=by rw [Qv];rfl
theorem qM(l:List VN):(l.map oF).flatMap D.cells=l.flatMap cV:=cU aVp l
theorem wT(l:List VN):∀d∈l.map oF,d.ncells=14/\d.arr=true:=by
 intro d hd;obtain⟨a,_,rfl⟩:=aU.1 hd;rw [Qv];exact⟨rfl,rfl⟩
@[simp high] theorem My(l:List VN):(l.flatMap cV).length=l.length * 14:=dG (f:=cV) (fun _=>rfl) l
theorem aRj(l:List VN)(rest:List D)(i j:Nat)(h:i<l.length)(hj:j<14):(l.flatMap cV++rest)[i * 14+j]?=(cV l[i])[j]?:=On (f:=cV) (k:=14) (fun _=>rfl) l rest i j h hj
def txt(v:VN)(s:ByteArray):VN:= { v with text:=s }
theorem aWl(l:List VN)(rest:List D)(i:Nat)(s:ByteArray)(h:i<l.length):(l.flatMap cV++rest).set (i * 14+3) (D.str s)=(l.set i (txt l[i] s)).flatMap cV++rest:=by
 have hp:=pL (f:=cV) (k:=14) (fun _=>rfl) l i h;rw [sY (f:=cV) l i h,sY (f:=cV) (l.set i (txt l[i] s)) i (by simpa using h),List.take_set_of_le (bC _),List.drop_set_of_lt (by omega),List.getElem_set_self];rw [bU,bU,bU,bU,<- hp,nU _ _ (by omega)];congr 1;rw [nO];rfl
def jI(k:VN):Bool:= !(decide (k.kind=1) && decide (k.text=⟨#[]⟩))
def nV(out:List VN)(k:VN):List VN:=match out.getLast? with
 | some p=>if p.kind=1/\k.kind=1 then out.set (out.length - 1) (txt p (p.text++k.text))else out++ [k]
 | none=>out++ [k]
def gV(l:List VN):List VN:=l.foldl nV []
theorem wV(l:List VN)(k:VN):gV (l++ [k])=nV (gV l) k:=by unfold gV;rw [jO];rfl
theorem Pu(o:List VN)(k:VN):(nV o k).length<=o.length+1:=by
 unfold nV;split
 .split <;> simp
 simp
theorem oP {o:List VN} {k:VN} (h:∀h:0<o.length,¬(o[o.length - 1].kind=1/\k.kind=1)):nV o k=o++ [k]:=by
 unfold nV;split
 .rename_i p hp;rw [Ey] at hp;obtain⟨h1,h2⟩:=aO.1 hp;rw [aD];rw [<- h2];exact h (by omega)
 rfl
theorem Ah {o:List VN} {k:VN} (h:0<o.length)(h1:o[o.length - 1].kind=1)(h2:k.kind=1):nV o k=o.set (o.length - 1) (txt o[o.length - 1] (o[o.length - 1].text++k.text)):=by
 unfold nV;rw [Ey,aW (by omega)];simp only [h1,h2,and_self,aT]
def cL(v:VN):VN:= { v with classes:=bK v.classes,attrs:=hU nA v.attrs,styles:=hU nP v.styles,kids:=gV ((v.kids.attach.map fun k=>cL k.1).filter jI) }
termination_by SizeOf.sizeOf v
decreasing_by
 have h:=nS k.2;cases v;simp at h |-;omega
theorem lH(v:VN):cL v= { v with classes:=bK v.classes,attrs:=hU nA v.attrs,styles:=hU nP v.styles,kids:=gV ((v.kids.map cL).filter jI) } :=by
 rw [cL];simp
theorem oL(v:VN):(cL v).kind=v.kind:=by rw [lH]
theorem qL(v:VN):(cL v).text=v.text:=by rw [lH]
theorem aEh(v:VN):jI (cL v)=jI v:=by unfold jI;rw [oL,qL]
theorem Pb {B C:Nat} {o:List VN} {k:VN} (ho:∀x∈o,x.text.size<=B)(hk:k.text.size<=C):∀x∈nV o k,x.text.size<=B+C:=by
 intro x hx;unfold nV at hx;have hq:∀y,y∈o++ [k]->y.text.size<=B+C:=fun y hy=>by
  rcases bQ.1 hy with h | h
  .have:=ho y h;omega
  rw [fP.1 h];omega
 split at hx
 .rename_i p hp;split at hx
  .rcases Na hx with h | h
   .have:=ho x h;omega
   rw [h];have hm:p∈o:=List.mem_of_getLast? hp;have:=ho p hm;simp only [txt,ByteArray.size_append];omega
  exact hq x hx
 exact hq x hx
def Lu(v:VN)(j:Nat):List VN:=gV (((v.kids.take j).map cL).filter jI)
theorem aJa(v:VN):Lu v 0= []:=rfl
theorem Hz(v:VN):∀j,(Lu v j).length<=j
 | 0=>by simp [aJa]
 | j + 1 => by
  by_cases h:j<v.kids.length
  .unfold Lu;rw [bN _ _ h,cN,fU,cD,kU];by_cases hk:jI (cL v.kids[j])=true
   .rw [qE hk,lK,wV];have:=Pu (gV (((v.kids.take j).map cL).filter jI)) (cL v.kids[j]);have:=Hz v j;unfold Lu at this;omega
   rw [sC hk,lK,gR];have:=Hz v j;unfold Lu at this;omega
  have h1:=Hz v j;unfold Lu at h1 |-;rw [bX (by omega)] at h1 |-;omega
theorem Ut {v:VN} (h:j<v.kids.length)(hk:jI (cL v.kids[j])=false):Lu v (j+1)=Lu v j:=by
 unfold Lu;rw [bN _ _ h,cN,fU,cD,kU,sC (by simp [hk]),lK,gR]
theorem wA {v:VN} (h:j<v.kids.length)(hk:jI (cL v.kids[j])=true):Lu v (j+1)=nV (Lu v j) (cL v.kids[j]):=by
 unfold Lu;rw [bN _ _ h,cN,fU,cD,kU,qE hk,lK,wV]
theorem aBn {v:VN} {B:Nat} (h:∀k∈v.kids,k.text.size<=B):∀j,j<=v.kids.length->∀k∈Lu v j,k.text.size<=j * B
 | 0,_=>fun k hk=>by rw [aJa] at hk;cases hk
 | j + 1, hj => fun k hk => by
  have ih:=aBn h j (by omega);have eB:(j+1) * B=j * B+B:=uN j B;rw [eB];cases e:jI (cL v.kids[j])with
  | false=>rw [Ut (by omega) e] at hk;have:=ih k hk;omega
  | true=>
   rw [wA (by omega) e] at hk;exact Pb ih (by rw [qL];exact h _ (cB _)) k hk
theorem aQk(v:VN):Lu v v.kids.length=(cL v).kids:=by rw [lH];unfold Lu;rw [dS]
theorem aAw(l:List PI)(σ:List (List D))(hl:l.length<=999999):Ct prog 108 [.sl false (l.map cQ)] σ (fun r σ'=>r= .sl false ((hU nP l).map cQ)/\σ'=σ):=(Ei l σ hl).freeze fun r σ' h=>h
theorem aAu(l:List AT)(σ:List (List D))(hl:l.length<=999999):Ct prog 107 [.sl false (l.map cW)] σ (fun r σ'=>r= .sl false ((hU nA l).map cW)/\σ'=σ):=(Dl l σ hl).freeze fun r σ' h=>h
theorem iU(σ:List (List D))(k:Nat)(c:List D):(σ++(List.replicate k []++ [c]))[σ.length+k]?=some c:=by
 rw [bT (by omega),bT (by simp)];simp
theorem bD(σ:List (List D))(k:Nat)(c x:List D):(σ++(List.replicate k []++ [c])).set (σ.length+k) x=σ++(List.replicate k []++ [x]):=by
 rw [nU _ _ (by omega),nU _ _ (by simp)];simp
theorem pF(k:Nat):List.replicate k ([]:List D)++ [[]]=List.replicate (k+1) []:=(List.replicate_succ' ..).symm
abbrev VSz(v:VN):Prop:=v.classes.length<=9999/\v.attrs.length<=9999/\v.styles.length<=9999/\v.kids.length<=9999/\∀k∈v.kids,k.text.size<=9999
abbrev aQ5(v:VN):Prop:=∀σ:List (List D),Ct prog 50 [iH v] σ (fun r σ'=>r=iH (cL v)/\σ'=σ)
theorem aUx(ks:List VN)(rest:List D)(h:0<ks.length):(∀h',(ks.flatMap cV++rest)[(ks.length - 1) * 14]'h'=D.int ks[ks.length - 1].kind)/\∀h',(ks.flatMap cV++rest)[(ks.length - 1) * 14+3]'h'=D.str ks[ks.length - 1].text:=by
 refine⟨fun h'=>?_,fun h'=>?_⟩
 .have:=aRj ks rest (ks.length - 1) 0 (by omega) (by decide);rw [kG,aW h'] at this;simpa [cV] using this
 have:=aRj ks rest (ks.length - 1) 3 (by omega) (by decide);rw [aW h'] at this;simpa [cV] using this
theorem aVz(ks:List VN)(rest:List D)(h:0<ks.length)(s:ByteArray):List.take ((ks.length - 1) * 14+3) (ks.flatMap cV++rest)++D.str s::List.drop ((ks.length - 1) * 14+3+1) (ks.flatMap cV++rest)=(ks.set (ks.length - 1) (txt ks[ks.length - 1] s)).flatMap cV++rest:=by
 rw [<- aWl ks rest (ks.length - 1) s (by omega),Ps,aM];rw [bB,My];omega
@[simp] abbrev q30_3:Cfg:=⟨[3,31],[],[],[29,55,62,68,34],[]⟩
theorem aKb (v : VN) (σ : List (List D)) (h : VSz v) (ih : ∀ k ∈ v.kids, aQ5 k) : Ct prog 50 [iH v] σ (fun r σ' => (r.plain = true /\ r.strip = iH (cL v)) /\ ∃ J, σ' = σ ++ J) := by
 refine zf func50 ?_;obtain⟨h1,h2,h3,h4,h5⟩:=h;refine zr q30_3 fun _ _ Z=>?_;simp(disch:=omega)[iU,bD];apply Z;refine zd q30_3 [.op {},.op {rL:=true},.pure,.op {},.op {rL:=true},.pure,.op {},.op {rL:=true},.pure,.op {},.op {rL:=true,wL:=true},.op {},.op {rL:=true,wL:=true},.op {},.op {rL:=true,wL:=true}] fun all hall _ Z=>?_;refine lM 2 fun _ Y=>?_;simp(disch:=omega)[iU,bD];apply Y;refine bV fun _ Y=>?_;simp(disch:=omega)[iU,bD];refine xH (fun _=>(Cz v.classes _ (by omega))) ?_;apply Y;refine lM 2 fun _ Y=>?_;simp(disch:=omega)[iU,bD];apply Y;refine bV fun _ Y=>?_;simp(disch:=omega)[iU,bD];refine xH (fun _=>(aAu v.attrs _ (by omega))) ?_;apply Y;refine lM 2 fun _ Y=>?_;simp(disch:=omega)[iU,bD];apply Y;refine bV fun _ Y=>?_;simp(disch:=omega)[iU,bD];refine xH (fun _=>(aAw v.styles _ (by omega))) ?_;apply Y;simp(disch:=omega)[iU,bD];apply Z;refine zk [1,2] ?_;refine zr q30_3 fun _ _ Z=>?_;simp(disch:=omega)[iU,bD];apply Z;apply aF;refine zr q30_3 fun _ _ Z=>?_;simp(disch:=omega)[iU,bD];and_intros<;>(try omega);apply Z;apply aR;refine zk [1,2,3,20,21,22] ?_;refine Bw 3 14 (by simp <;> rfl) ?_;refine oS (fun(j:Nat)=> [(22,.d (.v (.int .i64 (j:Int)))),(3,.d (.xs 14 ((Lu v j).map oF))),(6,.d (.any))]) (fun(j:Nat)=> [[D.int v.kind,D.str v.tag,D.str v.key,D.str v.text,.sl true ((bK v.classes).map D.str),.sl false ((hU nA v.attrs).map cW),.sl false ((hU nP v.styles).map cQ),D.int v.opts.enter,D.int v.opts.leave,D.int v.opts.move,D.int v.opts.mode,D.bool v.opts.appear,D.bool v.opts.moves,.sl false (v.kids.map oF)], [D.int 0,D.str ⟨#[]⟩,D.str ⟨#[]⟩,D.str ⟨#[]⟩,.sl true [],.sl true [],.sl true [],D.int 0,D.int 0,D.int 0,D.int 0,D.bool false,D.bool false,.sl true []]]) (fun(j:Nat)=>σ++List.replicate j []) [3,5,6,22,23,24,25,26,27,28,29,30,31,32,33,34,35,36,37,38,39,40,41,42,43,44,45,46,47,48,49,50,51,52,53,54,55,56,57,58,59,60,61,62,63,64,65,66,67,68,69,70] (fun(j:Nat)=>j<=v.kids.length) (fun(j:Nat)=>v.kids.length - j) (0) (by simp <;> rfl) ?_ (by simp) (by simp) ?_ ?_
 .simp [aJa]
 .simp
 rintro j hj;simp only [aQ,aP];have hnl:=Hz v j;obtain⟨ks,hks⟩:∃ks,Lu v j=ks:=⟨_,rfl⟩;rw [hks] at hnl |-;refine iL 3 14 (by simp <;> rfl) (by decide) fun cap rest hcap hcm hrest hk0 hes=>?_;simp only [bS] at hcap hrest |-;rw [qM];have hrl:rest.length=(cap - ks.length) * 14:=by rw [hrest,cO]
 clear hrest;have hdl:ks.length * 14+rest.length=cap * 14:=by omega
 have hdl2:(ks.flatMap cV++rest).length=cap * 14:=by rw [bB,My];exact hdl
 simp only [bB,cO,bU];refine zr q30_3 fun _ _ Z=>?_;simp(disch:=omega)[iU,bD];apply Z;apply aF;refine zI ?_ ?_<;>intro c1<;>try simp at c1
 .apply jY;refine zr q30_3 fun _ _ Z=>?_;simp (disch:=omega)[iU,bD];and_intros<;>(try omega);apply Z;refine zr q30_3 fun _ _ Z=>?_;refine zs 1 fun _ Y=>?_;simp (disch:=omega)[iU,bD];apply Y;refine aE fun _ Y=>?_;simp (disch:=omega)[iU,bD];refine cH (ih v.kids[j] (cB _) _) ?_;obtain ⟨q, hq⟩ : ∃ q, cL v.kids[j] = q := ⟨_, rfl⟩;rw [hq];apply Y;simp (disch:=omega)[iU,bD];apply Z;refine zk [1,2,3,5,6,20,21,22] ?_;refine zr q30_3 fun _ _ Z=>?_;simp (disch:=omega)[iU,bD];and_intros<;>(try omega);apply Z;apply aR;refine zk [1,2,3,5,6,20,21,22] ?_;refine lS q30_3 fun all hall _ Z=>?_;have ga3 : aN all 3 = some 39 := hall 3;refine zs 4 fun _ Y=>?_;simp (disch:=omega)[iU,bD,ga3];apply Y;refine zb 39 ?_ ?_<;>intro g2<;>try simp at g2
  .simp (disch:=omega)[iU,bD,ga3];apply Z;refine zI ?_ ?_<;>intro c3<;>try simp at c3
   .have hnx:Lu v (j+1)=ks:=by rw [Ut c1 (by rw [hq];simp [jI,g2,c3]),hks]
    refine fF 3 14 (σ.length+j) ks.length cap ((ks).map oF) ((ks).flatMap cV++rest) (by simp <;> rfl) (by simp [iU]) (by decide) (by simp only [bB,My,cF];omega) (by simp) (wT _) (by rw [qM];exact cZ _ _) ?_;apply xF;apply kY;apply zB;refine zk [1,2,3,6,20,21,22] ?_;refine zt q30_3 fun _ _ Z=>?_;simp(disch:=omega)[iU,bD];and_intros<;>(try omega);apply Z;refine fC (j+1) ?_ ?_ (dU rfl ?_ (by simp) (by simp [pF]))
    .omega
    .try dsimp only
     omega
    simp(disch:=omega)[iU,bD,hnx]
   refine zk [1,2,3,5,6,20,21,22] ?_;refine lS q30_3 fun all hall _ Z=>?_;have ga3:aN all 3=some 48:=hall 3;have ga7:aN all 7=some 52:=hall 7;refine zs 4 fun _ Y=>?_;simp(disch:=omega)[iU,bD,ga3,ga7];apply Y;refine zb 48 ?_ ?_<;>intro g4<;>try simp at g4
   .refine zs 4 fun _ Y=>?_;simp(disch:=omega)[iU,bD,ga3,ga7];apply Y;refine zb 52 ?_ ?_<;>intro g5<;>try simp at g5
    .have hkp:jI q=true:=by simp [jI,c3]
     have hk1:0<ks.length:=by omega
     obtain⟨hr0,hr3⟩:=aUx ks rest hk1;simp(disch:=omega)[iU,bD,ga3,ga7,hr0,hr3];and_intros<;>(try omega);apply Z;refine zI ?_ ?_<;>intro c6<;>try simp at c6
     .have hnx:Lu v (j+1)=ks.set (ks.length - 1) (txt ks[ks.length - 1] (ks[ks.length - 1].text++q.text)):=by rw [wA c1 (by rw [hq];exact hkp),hks,hq,Ah hk1 c6 g2]
      have hsz:ks[ks.length - 1].text.size+q.text.size<=9223372036854775807:=by
        have ha:=aBn h5 j (by omega);rw [hks] at ha;have hj9:j * 9999<=9999 * 9999:=fS _ (by omega);have ha:=ha _ (cB (by omega:ks.length - 1<ks.length));have hb:=h5 v.kids[j] (cB _);rw [<- qL,hq] at hb;omega
      have hwr:=aVz ks rest hk1 (ks[ks.length - 1].text++q.text);refine zk [1,2,3,5,6,20,21,22] ?_;refine ze q30_3 [.op {},.op {},.op {},.op {},.op {rO:=true},.op {},.op {rL:=true},.op {},.op {},.op {},.op {rO:=true,wO:=true}] fun all hall _ Z=>?_;refine lM 8 fun _ Y=>?_;simp(disch:=omega)[iU,bD,hr0,hr3,hwr];and_intros<;>(try omega);apply Y;simp(disch:=omega)[iU,bD,hr0,hr3,hwr];and_intros<;>(try omega);apply Z;apply kY;apply zB;refine fF 3 14 (σ.length+j) ks.length cap ((ks.set (ks.length - 1) (txt ks[ks.length - 1] (ks[ks.length - 1].text++q.text))).map oF) ((ks.set (ks.length - 1) (txt ks[ks.length - 1] (ks[ks.length - 1].text++q.text))).flatMap cV++rest) (by simp <;> rfl) (by simp [iU]) (by decide) (by simp only [bB,My,cF];omega) (by simp) (wT _) (by rw [qM];exact cZ _ _) ?_;refine zk [1,2,3,6,20,21,22] ?_;refine zt q30_3 fun _ _ Z=>?_;simp(disch:=omega)[iU,bD,hr0,hr3,hwr];and_intros<;>(try omega);apply Z;refine fC (j+1) ?_ ?_ (dU rfl ?_ (by simp) (by simp [pF]))
      .omega
      .try dsimp only
       omega
      simp(disch:=omega)[iU,bD,hnx,hr0,hr3,hwr]
     have hnx:Lu v (j+1)=ks++ [q]:=by rw [wA c1 (by rw [hq];exact hkp),hks,hq,oP fun _ h=>c6 h.1]
     refine zk [1,2,3,5,6,20,21,22] ?_;refine zt q30_3 fun _ _ Z=>?_;refine zs 4 fun _ Y=>?_;simp(disch:=omega)[iU,bD];refine⟨by first | rfl | exact⟨rfl,rfl⟩ | trivial,_,ks.map oF,⟨rfl,hdl2,by simp,wT ks,by rw [qM];exact cZ _ _,by simp;omega,by simp [maxLen];omega⟩,?_⟩;and_intros<;>(try omega);apply Y;simp(disch:=omega)[iU,bD];apply Z;apply kY;apply zB;refine zk [1,2,3,6,20,21,22] ?_;refine zt q30_3 fun _ _ Z=>?_;simp(disch:=omega)[iU,bD];and_intros<;>(try omega);apply Z;refine fC (j+1) ?_ ?_ (dU rfl ?_ (by simp) (by simp [pF]))
     .omega
     .try dsimp only
      omega
     simp(disch:=omega)[iU,bD,hnx]
    have hkp:jI q=true:=by simp [jI,c3]
    have hnx:Lu v (j+1)=ks++ [q]:=by rw [wA c1 (by rw [hq];exact hkp),hks,hq,oP fun h _=>absurd h (by omega)]
    simp(disch:=omega)[iU,bD,ga3,ga7];apply Z;refine aX (t:=false) (by simp) (fun h=>by cases h) (fun _=>?_);refine zk [1,2,3,5,6,20,21,22] ?_;refine zt q30_3 fun _ _ Z=>?_;refine zs 4 fun _ Y=>?_;simp(disch:=omega)[iU,bD];refine⟨by first | rfl | exact⟨rfl,rfl⟩ | trivial,_,ks.map oF,⟨rfl,hdl2,by simp,wT ks,by rw [qM];exact cZ _ _,by simp;omega,by simp [maxLen];omega⟩,?_⟩;and_intros<;>(try omega);apply Y;simp(disch:=omega)[iU,bD];apply Z;apply kY;apply zB;refine zk [1,2,3,6,20,21,22] ?_;refine zt q30_3 fun _ _ Z=>?_;simp(disch:=omega)[iU,bD];and_intros<;>(try omega);apply Z;refine fC (j+1) ?_ ?_ (dU rfl ?_ (by simp) (by simp [pF]))
    .omega
    .try dsimp only
     omega
    simp(disch:=omega)[iU,bD,hnx]
   exact absurd g2 g4
  have hnx:Lu v (j+1)=ks++ [q]:=by rw [wA c1 (by rw [hq];simp [jI,g2]),hks,hq,oP fun _ h=>g2 h.2]
  simp(disch:=omega)[iU,bD,ga3];apply Z;refine aX (t:=false) (by simp) (fun h=>by cases h) (fun _=>?_);refine zk [1,2,3,5,6,20,21,22] ?_;refine lS q30_3 fun all hall _ Z=>?_;have ga3:aN all 3=some 48:=hall 3;have ga7:aN all 7=some 52:=hall 7;refine zs 4 fun _ Y=>?_;simp(disch:=omega)[iU,bD,ga3,ga7];apply Y;refine zb 48 ?_ ?_<;>intro g7<;>try simp at g7
  .exact absurd g7 g2
  refine zs 4 fun _ Y=>?_;simp(disch:=omega)[iU,bD,ga3,ga7];apply Y;simp(disch:=omega)[iU,bD,ga3,ga7];apply Z;refine aX (t:=false) (by simp) (fun h=>by cases h) (fun _=>?_);refine zk [1,2,3,5,6,20,21,22] ?_;refine zt q30_3 fun _ _ Z=>?_;refine zs 4 fun _ Y=>?_;simp(disch:=omega)[iU,bD];refine⟨by first | rfl | exact⟨rfl,rfl⟩ | trivial,_,ks.map oF,⟨rfl,hdl2,by simp,wT ks,by rw [qM];exact cZ _ _,by simp;omega,by simp [maxLen];omega⟩,?_⟩;and_intros<;>(try omega);apply Y;simp(disch:=omega)[iU,bD];apply Z;apply kY;apply zB;refine zk [1,2,3,6,20,21,22] ?_;refine zt q30_3 fun _ _ Z=>?_;simp(disch:=omega)[iU,bD];and_intros<;>(try omega);apply Z;refine fC (j+1) ?_ ?_ (dU rfl ?_ (by simp) (by simp [pF]))
  .omega
  .try dsimp only
   omega
  simp(disch:=omega)[iU,bD,hnx]
 obtain rfl:j=v.kids.length:=by omega
 apply zE;refine zr q30_3 fun _ _ Z=>?_;simp(disch:=omega)[iU,bD];apply Z;refine Gy 0 13 (σ.length+v.kids.length) ks.length cap 14 _ _ (ks.map oF) rfl rfl (by simp [iU]) (by decide) hdl2 (by simp) (wT _) (by rw [qM];exact cZ _ _) ?_;simp only [fV,gE];refine zr q30_3 fun _ _ Z=>?_;simp(disch:=omega)[iU,bD];apply Z;apply aC;simp [aI];rw [lH,<- hks,aQk,lH];simp
theorem aCa(N:Nat)(v:VN):Sc N (iH v):=Sc.agg fun d hd=>by
 simp only [bP,gY,gZ] at hd;rcases hd with rfl | rfl | rfl | rfl | rfl | rfl | rfl | rfl | rfl | rfl | rfl | rfl | rfl | rfl
 .exact Sc.v _
 .exact Sc.v _
 .exact Sc.v _
 .exact Sc.v _
 .exact Sc.sl (Sc.map fun a=>Ry _ a)
 .exact Sc.sl (Sc.map fun a=>Qj _ a)
 .exact Sc.sl (Sc.map fun a=>Qq _ a)
 .exact Sc.v _
 .exact Sc.v _
 .exact Sc.v _
 .exact Sc.v _
 .exact Sc.v _
 .exact Sc.v _
 refine Sc.sl fun d hd=>?_;obtain⟨k,hk,e⟩:=aU.1 hd;rw [<- e,Qv];exact aCa N k
termination_by SizeOf.sizeOf v
decreasing_by
 have h:=nS hk;cases v;simp at h |-;omega
theorem dY {v k:VN} (h:k∈v.kids):cT k+1<=cT v:=by
 rw [jW v];have:∀l:List VN,k∈l->cT k<=(l.map cT).sum:=by
  intro l;induction l with
  | nil=>intro h;cases h
  | cons a l ih=>
   intro h;simp only [cD,jQ];rcases bP.1 h with rfl | h
   .omega
   have:=ih h;omega
 have:=this v.kids h;omega
theorem mP(v:VN):v.kids.length+1<=cT v:=by
 rw [jW v];have:∀l:List VN,l.length<=(l.map cT).sum:=by
  intro l;induction l with
  | nil=>simp
  | cons a l ih=>
   have:=jW a;simp only [cD,jQ,cG];omega
 have:=this v.kids;omega
theorem VG.f {v:VN} (h:VG v):VF v:=by cases h;assumption
theorem VG.k {v:VN} (h:VG v):∀k∈v.kids,VG k:=by cases h;assumption
theorem VG.sz {v:VN} (h:VG v)(hc:cT v<=9999):VSz v:=by
 obtain⟨a,b,c,d, -⟩:=h.f;have:=mP v;exact⟨by omega,by omega,by omega,by omega,fun k hk=>by have:=(h.k k hk).f.2.2.2.1;omega⟩
theorem Ih(v:VN)(h:VG v)(hc:cT v<=9999):aQ5 v:=fun σ=>
 have h1:Ct prog 50 [iH v] σ (fun r σ'=>r=iH (cL v)/\∃J,σ'=σ++J):=(aKb v σ (h.sz hc) fun k hk=>Ih k (h.k k hk) (by have:=dY hk;omega)).strip fun r σ' h=>⟨h.1.1,h.1.2,h.2⟩
 h1.trim fun r σ' ⟨hr,J,hs⟩=>⟨σ,J,hs,rfl,by rw [hr];exact aCa _ _,fun n cs h=> .inl h,hr,rfl⟩
termination_by cT v
decreasing_by
 have:=dY hk;omega
theorem Tq {β:Type} {n1:α->ByteArray} {n2:β->ByteArray} {f:α->β} (h:∀a,n2 (f a)=n1 a):∀(l:List α) (p:α),(fO n1 l p).map f=fO n2 (l.map f) (f p)
 | [],p=>rfl
 | q::l,p=>by
  simp only [fO,cD,h];split
  .rw [cD,Tq h l p]
  split <;> simp
theorem aOj {β:Type} {n1:α->ByteArray} {n2:β->ByteArray} {f:α->β} (h:∀a,n2 (f a)=n1 a)(l:List α):(hU n1 l).map f=hU n2 (l.map f):=by
 have:∀(l o:List α),(l.foldl (fO n1) o).map f=(l.map f).foldl (fO n2) (o.map f):=by
  intro l;induction l with
  | nil=>intro o;rfl
  | cons a l ih=>intro o;simp only [dJ,cD];rw [ih,Tq h]
 exact this l []
def zL(l:List AT)(k:Nat):List PI:=(List.range k).map fun i=>⟨(l.getD i ⟨⟨#[]⟩,⟨#[]⟩⟩).name,i⟩
def Ov(l:List AT)(p:PI):AT:=⟨p.name,(l.getD p.value.toNat ⟨⟨#[]⟩,⟨#[]⟩⟩).value⟩
theorem aDy(l:List AT) {k:Nat} (h:k<l.length):zL l (k+1)=zL l k++ [⟨l[k].name,k⟩]:=by
 unfold zL;rw [uJ,cN];simp [List.getD,h]
theorem Lk(l:List AT)(k:Nat):(zL l k).length=k:=by simp [zL]
theorem Dc {nm:α->ByteArray} {l:List α} {x:α} (h:x∈hU nm l):x∈l:=by
 have:∀(l o:List α),x∈l.foldl (fO nm) o->x∈o\/x∈l:=by
  intro l;induction l with
  | nil=>intro o h;exact .inl h
  | cons a l ih =>
   intro o h;rcases ih _ h with h | h
   .rcases Bz nm h with rfl | h
    .exact .inr eH
    exact .inl h
   exact .inr (gG _ h)
 rcases this l [] h with h | h
 .cases h
 exact h
theorem aP8 {l:List AT} {S:List PI} (hS:hU nP (zL l l.length)=S) (hj:j<S.length):∃i:Nat,∃h:i<l.length,S[j].value=(i:Int)/\Ov l S[j]=l[i]:=by
 have h0:S[j]∈zL l l.length:=by
  have:=cB hj;generalize S[j]=y at this |-;rw [<- hS] at this;exact Dc this
 generalize S[j]=y at h0 |-;unfold zL at h0;obtain⟨i,hi,e⟩:=aU.1 h0;have hi:=fK.1 hi;refine⟨i,hi,by rw [<- e],?_⟩;rw [<- e];simp [Ov,List.getD,hi]
def Qc(l:List AT)(S:List PI)(j:Nat):List AT:=(S.take j).map (Ov l)
theorem aJ0(l:List AT)(S:List PI)(j:Nat):(Qc l S j).length<=j:=by unfold Qc;simp;omega
theorem aDa(l:List AT) {S:List PI} (h:j<S.length) {x:AT} (hx:Ov l S[j]=x):Qc l S (j+1)=Qc l S j++ [x]:=by
 unfold Qc;rw [bN S j h,cN,cD,kU,hx]
theorem aC0(l:List AT):(hU nP (zL l l.length)).map (Ov l)=hU nA l:=by
 rw [aOj (n1:=nP) (n2:=nA) (fun _=>rfl)];congr 1;refine List.ext_getElem (by simp [zL]) fun i h1 h2=>?_;simp [zL,Ov,List.getD,h2]
@[simp] abbrev q30_4:Cfg:=⟨[2,3,6,17,33,42],[],[],[],[]⟩
theorem aF2(l:List AT)(σ:List (List D))(hl:l.length<=9999):Ct prog 97 [.sl false (l.map cW)] σ (fun r σ'=>r= .sl true ((hU nA l).map cW)/\σ'=σ):=by
 refine zf func97 ?_;refine zr q30_4 fun _ _ Z=>?_;simp(disch:=omega);apply Z;refine zr q30_4 fun _ _ Z=>?_;simp(disch:=omega);and_intros<;>(try omega);apply Z;apply aF;refine zr q30_4 fun _ _ Z=>?_;simp(disch:=omega);and_intros<;>(try omega);apply Z;apply aR;refine zk [0,2,3,10,11,12] ?_;refine aY (fun(k:Nat)=> [(12,.d (.v (.int .i64 (k:Int)))),(3,.d (.sl true ((zL l k).map cQ))),(4,.d (.any)),(5,.d (.any))]) [3,4,5,12,13,14,15,16,17,18,19,20,21,22,23,24] (fun(k:Nat)=>k<=l.length) (fun(k:Nat)=>l.length - k) (0) (by simp <;> rfl) ?_ ?_ ?_
 .simp [zL]
 .simp
 rintro k hk;simp only [aQ,aP];have hnl:=Lk l k;refine zr q30_4 fun _ _ Z=>?_;simp(disch:=omega);apply Z;apply aF;refine zI ?_ ?_<;>intro c1<;>try simp at c1
 .have hnx:=aDy l c1;apply jY;refine zr q30_4 fun _ _ Z=>?_;simp(disch:=omega);and_intros<;>(try omega);apply Z;refine zk [0,2,3,4,5,10,11,12] ?_;refine zt q30_4 fun _ _ Z=>?_;simp(disch:=omega);and_intros<;>(try omega);apply Z;apply zB;refine zk [0,2,3,4,5,10,11,12] ?_;refine zt q30_4 fun _ _ Z=>?_;simp(disch:=omega);and_intros<;>(try omega);apply Z;refine zq (k+1) ?_ ?_ ?_
  .omega
  .try dsimp only
   omega
  simp(disch:=omega)[hnx]
 obtain rfl:k=l.length:=by omega
 apply zE;refine zr q30_4 fun _ _ Z=>?_;simp(disch:=omega);and_intros<;>(try omega);apply Z;apply aF;refine zr q30_4 fun _ _ Z=>?_;refine zs 1 fun _ Y=>?_;simp(disch:=omega);apply Y;refine aE fun _ Y=>?_;simp(disch:=omega);refine cH (Ri (zL l l.length) _ (by rw [Lk];omega)) ?_;obtain⟨S,hS⟩:∃S,hU nP (zL l l.length)=S:=⟨_,rfl⟩;have hSl:S.length<=9999:=by rw [<- hS];have:=iD nP (zL l l.length);rw [Lk] at this;omega
 rw [hS];apply Y;simp(disch:=omega);and_intros<;>(try omega);apply Z;apply aR;refine zk [0,2,6,27,28,29] ?_;refine aY (fun(j:Nat)=> [(29,.d (.v (.int .i64 (j:Int)))),(6,.d (.sl true ((Qc l S j).map cW))),(8,.d (.any))]) [6,8,29,30,31,32,33,34,35,36,37,38,39,40,41] (fun(j:Nat)=>j<=S.length) (fun(j:Nat)=>S.length - j) (0) (by simp <;> rfl) ?_ ?_ ?_
 .simp [Qc]
 .simp
 rintro j hj;simp only [aQ,aP];have hsl:=aJ0 l S j;refine zr q30_4 fun _ _ Z=>?_;simp(disch:=omega);apply Z;apply aF;refine zI ?_ ?_<;>intro c2<;>try simp at c2
 .obtain⟨i,hil,hiv,hip⟩:=aP8 hS c2;have hnx:=aDa l c2 hip;apply jY;refine zr q30_4 fun _ _ Z=>?_;simp(disch:=omega)[hiv];and_intros<;>(try omega);apply Z;refine zt q30_4 fun _ _ Z=>?_;refine zs 8 fun _ Y=>?_;simp(disch:=omega)[hiv];and_intros<;>(try omega);apply Y;simp(disch:=omega)[hiv];apply Z;apply zB;refine zk [0,2,6,8,27,28,29] ?_;refine zt q30_4 fun _ _ Z=>?_;simp(disch:=omega)[hiv];and_intros<;>(try omega);apply Z;refine zq (j+1) ?_ ?_ ?_
  .omega
  .try dsimp only
   omega
  simp(disch:=omega)[hnx,hiv]
 obtain rfl:j=S.length:=by omega
 have hall:Qc l S S.length=hU nA l:=by unfold Qc;rw [dS,<- hS];exact aC0 l
 apply zE;refine zr q30_4 fun _ _ Z=>?_;simp(disch:=omega);apply Z;apply aC;simp [aI,hall]
end Go.Proofs.YtbgfljpnhhdkoaaGreat
