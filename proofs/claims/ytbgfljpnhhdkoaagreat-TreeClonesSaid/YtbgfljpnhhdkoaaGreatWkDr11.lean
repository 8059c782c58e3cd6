import Derived.Test.YtbgfljpnhhdkoaaGreatVmX15
set_option linter.all false
set_option maxRecDepth 20000
set_option maxHeartbeats 8000000
open Go.Proofs.Tryz
namespace Go.Proofs.YtbgfljpnhhdkoaaGreat
open Go Go.Vm
variable {j:Nat}{α:Type}
structure OPT where
 enter:Int
 leave:Int
 move:Int
 mode:Int
 appear:Bool
 moves:Bool
 deriving DecidableEq
@[simp] abbrev aUv(s:OPT):D:= .agg [.v (.int .i64 s.enter),.v (.int .i64 s.leave),.v (.int .i64 s.move),.v (.int .i64 s.mode),.v (.bool s.appear),.v (.bool s.moves)]
structure FL where
 deep:Int
 kind:Int
 tag:ByteArray
 key:ByteArray
 text:ByteArray
 classes:(List ByteArray)
 attrs:(List AT)
 styles:(List PI)
 opts:OPT
 deriving DecidableEq
@[simp] abbrev Qr(s:FL):D:= .agg [.v (.int .i64 s.deep),.v (.int .i64 s.kind),.v (.string s.tag),.v (.string s.key),.v (.string s.text),.sl false (s.classes.map D.str),.sl false (s.attrs.map cY),.sl false (s.styles.map cQ),.v (.int .i64 s.opts.enter),.v (.int .i64 s.opts.leave),.v (.int .i64 s.opts.move),.v (.int .i64 s.opts.mode),.v (.bool s.opts.appear),.v (.bool s.opts.moves)]
@[simp] abbrev aZu(s:FL):D:= .agg [.v (.int .i64 s.deep),.v (.int .i64 s.kind),.v (.string s.tag),.v (.string s.key),.v (.string s.text),.sl true (s.classes.map D.str),.sl true (s.attrs.map cY),.sl true (s.styles.map cQ),.v (.int .i64 s.opts.enter),.v (.int .i64 s.opts.leave),.v (.int .i64 s.opts.move),.v (.int .i64 s.opts.mode),.v (.bool s.opts.appear),.v (.bool s.opts.moves)]
structure VN where
 kind:Int
 tag:ByteArray
 key:ByteArray
 text:ByteArray
 classes:(List ByteArray)
 attrs:(List AT)
 styles:(List PI)
 opts:OPT
 kids:(List VN)
def nT(s:VN):D:= .agg [.v (.int .i64 s.kind),.v (.string s.tag),.v (.string s.key),.v (.string s.text),.sl false (s.classes.map D.str),.sl false (s.attrs.map cY),.sl false (s.styles.map cQ),.v (.int .i64 s.opts.enter),.v (.int .i64 s.opts.leave),.v (.int .i64 s.opts.move),.v (.int .i64 s.opts.mode),.v (.bool s.opts.appear),.v (.bool s.opts.moves),.sl false (s.kids.attach.map fun k=>nT k.1)]
termination_by SizeOf.sizeOf s
decreasing_by
 have h:=uQ k.2;cases s;simp at h |-;omega
@[simp] abbrev jQ(s:VN):D:= .agg [.v (.int .i64 s.kind),.v (.string s.tag),.v (.string s.key),.v (.string s.text),.sl false (s.classes.map D.str),.sl false (s.attrs.map cY),.sl false (s.styles.map cQ),.v (.int .i64 s.opts.enter),.v (.int .i64 s.opts.leave),.v (.int .i64 s.opts.move),.v (.int .i64 s.opts.mode),.v (.bool s.opts.appear),.v (.bool s.opts.moves),.sl false (s.kids.map nT)]
@[simp] abbrev aY2(s:VN):D:= .agg [.v (.int .i64 s.kind),.v (.string s.tag),.v (.string s.key),.v (.string s.text),.sl true (s.classes.map D.str),.sl true (s.attrs.map cY),.sl true (s.styles.map cQ),.v (.int .i64 s.opts.enter),.v (.int .i64 s.opts.leave),.v (.int .i64 s.opts.move),.v (.int .i64 s.opts.mode),.v (.bool s.opts.appear),.v (.bool s.opts.moves),.sl true (s.kids.map nT)]
@[simp] theorem Qn(s:VN):nT s=jQ s:=by rw [nT];simp
def Gd(l:Ls)(n:Nat):Ls:=(l.take n).map (tJ 20)
def aXr(p:PI):PI:=⟨tJ 20 p.name,p.value⟩
def aWx(p:AT):AT:=⟨tJ 20 p.name,tJ 40 p.value⟩
def Dw(l:List PI)(n:Nat):List PI:=(l.take n).map aXr
def Jp(l:List AT)(n:Nat):List AT:=(l.take n).map aWx
theorem aEh(l:List ByteArray)(k:Nat)(h:k<l.length):Gd l (k+1)=Gd l k++ [tJ 20 l[k]]:=by
 unfold Gd;rw [bS l k h,cN];rfl
theorem aTl(l:List ByteArray):Gd l 0= []:=rfl
theorem Vl(l:List ByteArray)(n:Nat):(Gd l n).length<=n:=by simp [Gd];omega
theorem aHa(l:List ByteArray)(k n:Nat)(h:l.length<=k)(hn:k<=n):Gd l k=Gd l n:=by
 unfold Gd;rw [cC h,cC (qK h hn)]
theorem aEe(l:List PI)(k:Nat)(h:k<l.length):Dw l (k+1)=Dw l k++ [⟨tJ 20 l[k].name,l[k].value⟩]:=by
 unfold Dw;rw [bS l k h,cN];rfl
theorem aTf(l:List PI):Dw l 0= []:=rfl
theorem Sy(l:List PI)(n:Nat):(Dw l n).length<=n:=by simp [Dw];omega
theorem aKi(l:List PI)(k n:Nat)(h:l.length<=k)(hn:k<=n):Dw l k=Dw l n:=by
 unfold Dw;rw [cC h,cC (qK h hn)]
theorem aCo(l:List AT)(k:Nat)(h:k<l.length):Jp l (k+1)=Jp l k++ [⟨tJ 20 l[k].name,tJ 40 l[k].value⟩]:=by
 unfold Jp;rw [bS l k h,cN];rfl
theorem aTw(l:List AT):Jp l 0= []:=rfl
theorem Ui(l:List AT)(n:Nat):(Jp l n).length<=n:=by simp [Jp];omega
theorem aIb(l:List AT)(k n:Nat)(h:l.length<=k)(hn:k<=n):Jp l k=Jp l n:=by
 unfold Jp;rw [cC h,cC (qK h hn)]
@[simp] abbrev q35_1:Cfg:=⟨[4,5,18,26],[],[],[],[]⟩
theorem aSh(l:Ls)(n:Nat)(σ:List (List D))(hl:l.length<=9223372036854775807)(hn:n<=1000000):Ct prog 169 [dl l,D.int n] σ (fun r σ'=>r= .sl true ((Gd l n).map D.str)/\σ'=σ):=by
 refine zf func169 ?_;refine zr q35_1 fun _ _ Z=>?_;simp(disch:=omega);apply Z;refine zr q35_1 fun _ _ Z=>?_;simp(disch:=omega);apply Z;apply aE;refine zr q35_1 fun _ _ Z=>?_;simp(disch:=omega);apply Z;apply aR;refine zk [0,1,4,5,6] ?_;refine bA (fun(k:Nat)=> [(6,.d (.int (k:Int))),(5,.d (.sl true ((Gd l k).map D.str)))]) [5,6,7,8,9,10,11,12,13,14,15,16,17,18,19,20,21,22,23,24,25] (fun(k:Nat)=>k<=l.length/\k<=n) (fun(k:Nat)=>l.length - k) (0) (by simp <;> rfl) ?_ ?_ ?_
 .simp [aTl]
 .simp
 rintro k ⟨hk,hn2⟩;simp only [aQ,aP];have hfl:=Vl l k;apply aE;refine mK q35_1 fun all hall _ Z=>?_;have ga4:aO all 4=some 11:=hall 4;refine zs 5 fun _ Y=>?_;simp(disch:=omega)[ga4];and_intros<;>(try omega);apply Y;refine zb 11 ?_ ?_<;>intro g1<;>try simp at g1
 .simp(disch:=omega)[ga4];apply Z;refine zI ?_ ?_<;>intro c2<;>try simp at c2
  .apply kP;refine zk [0,1,4,5,6] ?_;refine zt q35_1 fun _ _ Z=>?_;refine zs 5 fun _ Y=>?_;simp(disch:=omega);and_intros<;>(try omega);apply Y;refine aF fun _ Y=>?_;simp(disch:=omega);refine cU (At _ 20 _ (by omega)) ?_;apply Y;simp(disch:=omega);and_intros<;>(try omega);apply Z;apply zB;refine zk [0,1,4,5,6] ?_;refine zt q35_1 fun _ _ Z=>?_;simp(disch:=omega);and_intros<;>(try omega);apply Z;refine zq (k+1) ?_ ?_ ?_
   .omega
   .try dsimp only
    omega
   simp(disch:=omega)[aEh]
  apply zE;refine zk [4,5] ?_;refine zr q35_1 fun _ _ Z=>?_;simp(disch:=omega);apply Z;apply aC;simp [aH];rw [show k=n by omega]
 simp(disch:=omega)[ga4];apply Z;refine aZ (t:=false) (by simp) (fun h=>by cases h) (fun _=>?_);apply zE;refine zk [4,5] ?_;refine zr q35_1 fun _ _ Z=>?_;simp(disch:=omega);apply Z;apply aC;simp [aH];rw [aHa l k n (by omega) (by omega)]
@[simp] abbrev q35_2:Cfg:=⟨[4,5,18,33],[],[],[],[]⟩
theorem aNc(l:List PI)(n:Nat)(σ:List (List D))(hl:l.length<=9223372036854775807)(hn:n<=1000000):Ct prog 170 [.sl false (l.map cQ),D.int n] σ (fun r σ'=>r= .sl true ((Dw l n).map cQ)/\σ'=σ):=by
 refine zf func170 ?_;refine zr q35_2 fun _ _ Z=>?_;simp(disch:=omega);apply Z;refine zr q35_2 fun _ _ Z=>?_;simp(disch:=omega);apply Z;apply aE;refine zr q35_2 fun _ _ Z=>?_;simp(disch:=omega);apply Z;apply aR;refine zk [0,1,4,5,6] ?_;refine bA (fun(k:Nat)=> [(6,.d (.int (k:Int))),(5,.d (.sl true ((Dw l k).map cQ)))]) [5,6,7,8,9,10,11,12,13,14,15,16,17,18,19,20,21,22,23,24,25,26,27,28,29,30,31,32] (fun(k:Nat)=>k<=l.length/\k<=n) (fun(k:Nat)=>l.length - k) (0) (by simp <;> rfl) ?_ ?_ ?_
 .simp [aTf]
 .simp
 rintro k ⟨hk,hn2⟩;simp only [aQ,aP];have hfl:=Sy l k;apply aE;refine mK q35_2 fun all hall _ Z=>?_;have ga4:aO all 4=some 11:=hall 4;refine zs 5 fun _ Y=>?_;simp(disch:=omega)[ga4];and_intros<;>(try omega);apply Y;refine zb 11 ?_ ?_<;>intro g1<;>try simp at g1
 .simp(disch:=omega)[ga4];apply Z;refine zI ?_ ?_<;>intro c2<;>try simp at c2
  .apply kP;refine zk [0,1,4,5,6] ?_;refine ze q35_2 [.op {},.op {},.op {},.op {},.op {},.op {},.pure,.op {},.op {},.op {},.op {},.op {},.op {},.op {},.op {},.op {}] fun all hall _ Z=>?_;refine lN 6 fun _ Y=>?_;simp(disch:=omega);and_intros<;>(try omega);apply Y;refine cK fun _ Y=>?_;simp(disch:=omega);refine zW (fun _=>(At _ 20 _ (by omega))) ?_;apply Y;refine lN 8 fun _ Y=>?_;simp(disch:=omega);and_intros<;>(try omega);apply Y;simp(disch:=omega);apply Z;apply zB;refine zk [0,1,4,5,6] ?_;refine zt q35_2 fun _ _ Z=>?_;simp(disch:=omega);and_intros<;>(try omega);apply Z;refine zq (k+1) ?_ ?_ ?_
   .omega
   .try dsimp only
    omega
   simp(disch:=omega)[aEe]
  apply zE;refine zk [4,5] ?_;refine zr q35_2 fun _ _ Z=>?_;simp(disch:=omega);apply Z;apply aC;simp [aH];rw [show k=n by omega]
 simp(disch:=omega)[ga4];apply Z;refine aZ (t:=false) (by simp) (fun h=>by cases h) (fun _=>?_);apply zE;refine zk [4,5] ?_;refine zr q35_2 fun _ _ Z=>?_;simp(disch:=omega);apply Z;apply aC;simp [aH];rw [aKi l k n (by omega) (by omega)]
def vV(f:FL):VN:=⟨f.kind,tJ 20 f.tag,tJ 20 f.key,tJ 70 f.text,Gd f.classes 4,Jp f.attrs 4,Dw f.styles 4,f.opts, []⟩
abbrev FO(f:FL):Prop:=f.classes.length<=9223372036854775807/\f.attrs.length<=9223372036854775807/\f.styles.length<=9223372036854775807
theorem aM0(f:FL)(σ:List (List D))(h:FO f):Ct prog 89 [Qr f] σ (fun r σ'=>r=jQ (vV f)/\∃J,σ'=σ++J):=by
 refine zf func89 ?_;have h5:=h.1;have h6:=h.2.1;have h7:=h.2.2;refine zr ⟨[37],[],[3],[],[]⟩ fun _ _ Z=>?_;simp(disch:=omega)[bI,aJ,aW,aG];apply Z;refine zd ⟨[37],[],[3],[],[]⟩ [.op {},.op {rL:=true},.op {},.op {rL:=true},.pure,.op {},.op {rL:=true},.pure,.op {},.op {rL:=true},.pure,.op {},.op {rL:=true},.pure,.op {},.op {rL:=true},.pure,.op {},.op {rL:=true},.op {},.op {rO:=true,wO:=true},.op {rO:=true,wO:=true}] fun all hall _ Z=>?_;refine lN 4 fun _ Y=>?_;simp(disch:=omega)[bI,aJ,aW,aG];apply Y;refine cK fun _ Y=>?_;simp(disch:=omega)[bI,aJ,aW,aG];refine zW (fun _=>(At f.tag 20 _ (by omega))) ?_;apply Y;refine lN 2 fun _ Y=>?_;simp(disch:=omega)[bI,aJ,aW,aG];apply Y;refine cK fun _ Y=>?_;simp(disch:=omega)[bI,aJ,aW,aG];refine zW (fun _=>(At f.key 20 _ (by omega))) ?_;apply Y;refine lN 2 fun _ Y=>?_;simp(disch:=omega)[bI,aJ,aW,aG];apply Y;refine cK fun _ Y=>?_;simp(disch:=omega)[bI,aJ,aW,aG];refine zW (fun _=>(At f.text 70 _ (by omega))) ?_;apply Y;refine lN 2 fun _ Y=>?_;simp(disch:=omega)[bI,aJ,aW,aG];apply Y;refine cK fun _ Y=>?_;simp(disch:=omega)[bI,aJ,aW,aG];refine zW (fun _=>(aSh f.classes 4 _ h5 (by omega))) ?_;apply Y;refine lN 2 fun _ Y=>?_;simp(disch:=omega)[bI,aJ,aW,aG];apply Y;refine cK fun _ Y=>?_;simp(disch:=omega)[bI,aJ,aW,aG];refine zW (fun _=>(aNc f.styles 4 _ h7 (by omega))) ?_;apply Y;simp(disch:=omega)[bI,aJ,aW,aG];and_intros<;>(try omega);apply Z;apply aE;refine zk [1,2,3] ?_;refine zr ⟨[37],[],[3],[],[]⟩ fun _ _ Z=>?_;simp(disch:=omega)[bI,aJ,aW,aG];apply Z;apply aR;refine zk [1,2,3,4] ?_;refine oL (fun(k:Nat)=> [(4,.d (.v (.int .i64 (k:Int))))]) (fun(k:Nat)=> []) (fun(k:Nat)=> [(σ.length, [D.int f.kind,D.str (tJ 20 f.tag),D.str (tJ 20 f.key),D.str (tJ 70 f.text),.sl false ((Gd f.classes 4).map D.str),.sl true ((Jp f.attrs k).map cY),.sl false ((Dw f.styles 4).map cQ),D.int f.opts.enter,D.int f.opts.leave,D.int f.opts.move,D.int f.opts.mode,D.bool f.opts.appear,D.bool f.opts.moves,.sl true []])]) [4,25,26,27,28,29,30,31,32,33,34,35,36,37,38,39,40,41,42,43,44,45,46,47,48,49,50,51,52,53,54,55] (fun(k:Nat)=>k<=f.attrs.length/\k<=4) (fun(k:Nat)=>f.attrs.length - k) (0) (by simp <;> rfl) ?_ (by simp) (by simp [aJ,aTw]) ?_ ?_
 .simp
 .simp
 rintro k ⟨hk,hk4⟩;simp only [aQ,aP,oY,nC,iY,iQ];have hfl:=Ui f.attrs k;apply aE;refine mK ⟨[37],[],[3],[],[]⟩ fun all hall _ Z=>?_;have ga5:aO all 5=some 30:=hall 5;refine zs 6 fun _ Y=>?_;simp(disch:=omega)[bI,aJ,aW,aG,ga5];and_intros<;>(try omega);apply Y;refine zb 30 ?_ ?_<;>intro g1<;>try simp at g1
 .simp(disch:=omega)[bI,aJ,aW,aG,ga5];apply Z;refine zI ?_ ?_<;>intro c2<;>try simp at c2
  .apply kP;refine zk [1,2,3,4] ?_;refine ze ⟨[37],[],[3],[],[]⟩ [.op {},.op {rO:=true,wO:=true},.op {},.op {rL:=true},.op {},.op {},.op {},.op {},.pure,.op {},.op {rL:=true},.op {},.op {},.op {},.op {},.pure,.op {},.op {},.op {},.op {},.op {rO:=true,wO:=true}] fun all hall _ Z=>?_;refine lN 8 fun _ Y=>?_;simp(disch:=omega)[bI,aJ,aW,aG];and_intros<;>(try omega);apply Y;refine cK fun _ Y=>?_;simp(disch:=omega)[bI,aJ,aW,aG];refine zW (fun _=>(At f.attrs[k].name 20 _ (by omega))) ?_;apply Y;refine lN 6 fun _ Y=>?_;simp(disch:=omega)[bI,aJ,aW,aG];and_intros<;>(try omega);apply Y;refine cK fun _ Y=>?_;simp(disch:=omega)[bI,aJ,aW,aG];refine zW (fun _=>(At f.attrs[k].value 40 _ (by omega))) ?_;apply Y;simp(disch:=omega)[bI,aJ,aW,aG];and_intros<;>(try omega);apply Z;apply zB;refine zk [1,2,3,4] ?_;refine zt ⟨[37],[],[3],[],[]⟩ fun _ _ Z=>?_;simp(disch:=omega)[bI,aJ,aW,aG];and_intros<;>(try omega);apply Z;refine fU (k+1) ?_ ?_ (eN rfl ?_ (by simp) (by simp [aCo,aJ, *]))
   .omega
   .try dsimp only
    omega
   simp(disch:=omega)[bI,aJ,aW,aG]
  apply zE;refine zk [2,3] ?_;refine zr ⟨[37],[],[3],[],[]⟩ fun _ _ Z=>?_;simp(disch:=omega)[bI,aJ,aW,aG];apply Z;apply aC;simp [aH,vV];rw [show k=4 by omega]
 simp(disch:=omega)[bI,aJ,aW,aG,ga5];apply Z;refine aZ (t:=false) (by simp) (fun h=>by cases h) (fun _=>?_);apply zE;refine zk [2,3] ?_;refine zr ⟨[37],[],[3],[],[]⟩ fun _ _ Z=>?_;simp(disch:=omega)[bI,aJ,aW,aG];apply Z;apply aC;simp [aH,vV];rw [aIb f.attrs k 4 (by omega) (by omega)]
theorem Zk(N:Nat)(x:ByteArray):Sc N (D.str x):=Sc.v _
theorem Zd(N:Nat)(x:AT):Sc N (cY x):=Sc.agg fun d hd=>by
 simp at hd;rcases hd with rfl | rfl <;> exact Sc.v _
theorem Yq(N:Nat)(x:PI):Sc N (cQ x):=Sc.agg fun d hd=>by
 simp at hd;rcases hd with rfl | rfl <;> exact Sc.v _
theorem aNt(N:Nat)(f:FL):Sc N (jQ (vV f)):=Sc.agg fun d hd=>by
 simp only [bN,iK,iH] at hd;rcases hd with rfl | rfl | rfl | rfl | rfl | rfl | rfl | rfl | rfl | rfl | rfl | rfl | rfl | rfl <;> first
  | exact Sc.v _
  | exact Sc.sl (Sc.map fun a=>Zk _ a)
  | exact Sc.sl (Sc.map fun a=>Zd _ a)
  | exact Sc.sl (Sc.map fun a=>Yq _ a)
  | exact Sc.sl fun d hd=>by cases hd
theorem Rl(f:FL)(σ:List (List D))(h:FO f):Ct prog 89 [Qr f] σ (fun r σ'=>r=jQ (vV f)/\σ'=σ):=
 (aM0 f σ h).trim fun r σ' ⟨hr,J,hs⟩=>⟨σ,J,hs,rfl,by rw [hr];exact aNt _ _,fun n cs h=> .inl h,hr,rfl⟩
def cJ(v:VN):Nat:=1+(v.kids.attach.map fun k=>cJ k.1).sum
termination_by SizeOf.sizeOf v
decreasing_by
 have h:=uQ k.2;cases v;simp at h |-;omega
theorem jI(v:VN):cJ v=1+(v.kids.map cJ).sum:=by rw [cJ];simp
abbrev VF(v:VN):Prop:=v.classes.length<=4/\v.attrs.length<=4/\v.styles.length<=4/\v.text.size<=70/\v.tag.size<=20/\v.key.size<=20/\(∀s∈v.classes,s.size<=20)/\(∀p∈v.attrs,p.name.size<=20/\p.value.size<=40)/\∀p∈v.styles,p.name.size<=20
inductive VG:VN->Prop
 | mk (v:VN) (h:VF v) (hk:∀k∈v.kids,VG k):VG v
theorem Vt(f:FL)(vs:List VN):VF { vV f with kids:=vs } :=by
 refine⟨Vl _ _,Ui _ _,Sy _ _,sX _ _,sX _ _,sX _ _,fun s hs=>?_,fun p hp=>?_,fun p hp=>?_⟩
 .obtain⟨x, -,rfl⟩:=aX.1 hs;exact sX _ _
 .obtain⟨x, -,rfl⟩:=aX.1 hp;exact⟨sX _ _,sX _ _⟩
 obtain⟨x, -,rfl⟩:=aX.1 hp;exact sX _ _
abbrev aQn(l:List FL)(i:Nat)(d:Int):Prop:=∀σ:List (List D),Ct prog 90 [.sl false (l.map Qr),D.int i,D.int d] σ (fun r σ'=>(∃(vs:List VN) (j:Nat),r= .tup [.sl false (vs.map nT),D.int j]/\i<=j/\j<=l.length/\(∀v∈vs,VG v)/\(vs.map cJ).sum=j - i)/\σ'=σ)
theorem Vu(l:List FL)(i:Nat)(d:Int)(σ:List (List D))(hl:l.length<=25)(hf:∀f∈l,FO f)(hi:i<=l.length)(ih:∀(i2:Nat) (d2:Int),i<i2->i2<=l.length->aQn l i2 d2):Ct prog 90 [.sl false (l.map Qr),D.int i,D.int d] σ (fun r σ'=>(∃(vs:List VN) (j:Nat),r= .tup [.sl false (vs.map nT),D.int j]/\i<=j/\j<=l.length/\(∀v∈vs,VG v)/\(vs.map cJ).sum=j - i)/\σ'=σ):=by
 refine zf func90 ?_;refine zr ⟨[8,41],[],[],[],[]⟩ fun _ _ Z=>?_;simp(disch:=omega);apply Z;refine zr ⟨[8,41],[],[],[],[]⟩ fun _ _ Z=>?_;simp(disch:=omega);apply Z;apply Sl;refine zk [0,1,2,6,7,8] ?_;refine bA (fun(p:List VN×Nat)=> [(8,.d (.sl true (p.1.map nT))),(1,.d (.v (.int .i64 (p.2:Int)))),(9,.d (.any))]) [1,8,9,10,11,12,13,14,15,16,17,18,19,20,21,22,23,24,25,26,27,28,29,30,31,32,33,34,35,36,37,38,39,40,41,42,43,44] (fun(p:List VN×Nat)=>i<=p.2/\p.2<=l.length/\(∀v∈p.1,VG v)/\(p.1.map cJ).sum=p.2 - i/\p.1.length<=p.2 - i) (fun(p:List VN×Nat)=>l.length - p.2) (([],i)) (by simp <;> rfl) ?_ ?_ ?_
 .simp
 .simp;omega
 rintro⟨vs,k⟩ ⟨h1,h2,h3,h4,h5⟩;simp only [aQ,aP];dsimp only at h1 h2 h3 h4 h5;apply aE;refine zk [0,1,2,6,7,8,9] ?_;refine mK ⟨[8,41],[],[],[],[]⟩ fun all hall _ Z=>?_;have ga4:aO all 4=some 14:=hall 4;refine zs 5 fun _ Y=>?_;simp(disch:=omega)[ga4];and_intros<;>(try omega);apply Y;refine zb 14 ?_ ?_<;>intro g1<;>try simp at g1
 .simp(disch:=omega)[ga4];and_intros<;>(try omega);apply Z;refine zI ?_ ?_<;>intro c2<;>try simp at c2
  .apply zA;apply aR;refine zk [0,1,2,6,7,8,9] ?_;refine zr ⟨[8,41],[],[],[],[]⟩ fun _ _ Z=>?_;refine zs 4 fun _ Y=>?_;simp(disch:=omega);and_intros<;>(try omega);apply Y;refine aF fun _ Y=>?_;simp(disch:=omega);refine cU (Rl l[k] _ (hf _ (bP _))) ?_;apply Y;simp(disch:=omega);apply Z;refine zk [0,1,2,6,7,8,9] ?_;refine zr ⟨[8,41],[],[],[],[]⟩ fun _ _ Z=>?_;refine zs 8 fun _ Y=>?_;simp(disch:=omega);and_intros<;>(try omega);apply Y;refine aF fun _ Y=>?_;simp(disch:=omega);refine Lt (ih (k+1) l[k].deep (by omega) (by omega) _) ?_;rintro _ τ1 ⟨⟨ws,j,hr,hj1,hj2,hg,hs⟩,hτ⟩;subst hr hτ;apply Y;simp(disch:=omega);apply Z;refine zk [0,1,2,6,7,8,9] ?_;refine zt ⟨[8,41],[],[],[],[]⟩ fun _ _ Z=>?_;simp(disch:=omega);and_intros<;>(try omega);apply Z;apply kV;refine zq ((vs++ [{ vV l[k] with kids:=ws }],j)) ?_ ?_ ?_
   .refine⟨by omega,hj2,fun v hv=>?_,?_,?_⟩
    .rcases bR.1 hv with hv | hv
     .exact h3 v hv
     rw [fK.1 hv];exact .mk _ (Vt _ _) hg
    .simp only [cN,Gt,cE,iW,iX,List.sum_nil,jI { vV l[k] with kids:=ws }];omega
    simp;omega
   .try dsimp only
    omega
   simp(disch:=omega)
  apply zE;refine zk [1,6,7,8] ?_;refine zr ⟨[8,41],[],[],[],[]⟩ fun _ _ Z=>?_;simp(disch:=omega);apply Z;apply aC;simp [aH];exact⟨vs,k,⟨rfl,rfl⟩,h1,h2,h3,h4⟩
 simp(disch:=omega)[ga4];apply Z;refine aZ (t:=false) (by simp) (fun h=>by cases h) (fun _=>?_);apply zE;refine zk [1,6,7,8] ?_;refine zr ⟨[8,41],[],[],[],[]⟩ fun _ _ Z=>?_;simp(disch:=omega);apply Z;apply aC;simp [aH];exact⟨vs,k,⟨rfl,rfl⟩,h1,h2,h3,h4⟩
theorem Iz(l:List FL)(hl:l.length<=25)(hf:∀f∈l,FO f):∀(n i:Nat) (d:Int),l.length - i<=n->i<=l.length->aQn l i d
 | 0,i,d,hn,hi=>fun σ=>Vu l i d σ hl hf hi fun i2 d2 h1 h2=>absurd h2 (by omega)
 | n+1,i,d,hn,hi=>fun σ=>Vu l i d σ hl hf hi fun i2 d2 h1 h2=>Iz l hl hf n i2 d2 (by omega) h2
def Fy:VN:=⟨2,⟨#[112]⟩,⟨#[]⟩,⟨#[]⟩, [], [], [],⟨0,0,0,0,false,false⟩, []⟩
theorem aIf:VG Fy:= .mk _ ⟨by decide,by decide,by decide,by decide+kernel,by decide+kernel,by decide+kernel,(fun s h=>by cases h),(fun p h=>by cases h),(fun p h=>by cases h)⟩ fun k hk=>by cases hk
theorem aIk:cJ Fy<=25:=by rw [jI];decide
theorem aQz(f:FL)(ws:List VN)(j:Nat)(hg:∀v∈ws,VG v)(hs:(ws.map cJ).sum=j - 1)(hj:j<=25)(h1:1<=j):VG { vV f with kids:=ws } /\cJ { vV f with kids:=ws } <=25:=by
 refine⟨.mk _ (Vt _ _) hg,?_⟩;rw [jI];simp only [];omega
theorem aG2(l:List FL)(n:Nat)(σ:List (List D))(hn:n<=25)(hl:l.length<=9223372036854775807)(hf:∀f∈l,FO f):Ct prog 27 [.sl false (l.map Qr),D.int n] σ (fun r σ'=>(r.plain=true/\∃v:VN,r.strip=jQ v/\VG v/\cJ v<=25)/\σ'=σ):=by
 refine zf func27 ?_;refine bF fun _ _ Z=>?_;simp(disch:=omega);apply Z;apply aE;refine bF fun _ _ Z=>?_;simp(disch:=omega);and_intros<;>(try omega);apply Z;refine zI ?_ ?_<;>intro c1<;>try simp at c1
 .refine qJ fun _ _ Z=>?_;simp(disch:=omega);and_intros<;>(try omega);apply Z;apply fV;apply aE;rw [<- uX];obtain⟨L,hL⟩:∃L,L=l.take n:=⟨_,rfl⟩;rw [<- hL];have hLl:L.length<=25:=by rw [hL,bG];omega
  have hLf:∀f∈L,FO f:=by rw [hL];exact fun f hf2=>hf f (mD hf2)
  refine bF fun _ _ Z=>?_;simp(disch:=omega);and_intros<;>(try omega);apply Z;refine zI ?_ ?_<;>intro c2<;>try simp at c2
  .refine zk [0,4] ?_;refine bF fun _ _ Z=>?_;simp(disch:=omega);apply Z;apply aC;simp [aH];exact⟨Fy,by simp [Fy],aIf,aIk⟩
  apply zA;have hL0:0<L.length:=by
   rcases L with _ | ⟨a,b⟩
   .first | (simp at c2;done) | (simp at c3;done)
   simp
  refine zk [0,4] ?_;refine bF fun _ _ Z=>?_;refine zs 3 fun _ Y=>?_;simp(disch:=omega);and_intros<;>(try omega);apply Y;refine aF fun _ Y=>?_;simp(disch:=omega);refine cU (Rl L[0] _ (hLf _ (bP _))) ?_;apply Y;simp(disch:=omega);apply Z;refine bF fun _ _ Z=>?_;refine zs 5 fun _ Y=>?_;simp(disch:=omega);and_intros<;>(try omega);apply Y;refine aF fun _ Y=>?_;simp(disch:=omega);refine Lt (Iz L hLl hLf 25 1 L[0].deep (by omega) (by omega) _) ?_;rintro _ τ1 ⟨⟨ws,j,hr,hj1,hj2,hg,hs⟩,hτ⟩;subst hr hτ;apply Y;simp(disch:=omega);apply Z;refine zk [4,5] ?_;refine bF fun _ _ Z=>?_;simp(disch:=omega);apply Z;apply aC;simp [aH];exact⟨{ vV L[0] with kids:=ws },by simp,aQz _ ws j hg hs (by omega) (by omega)⟩
 apply zA;apply aE;obtain⟨L,hL⟩:∃L,L=l:=⟨_,rfl⟩;have hLl:L.length<=25:=by rw [hL];omega
 have hLf:∀f∈L,FO f:=by rw [hL];exact hf
 rw [<- hL];refine bF fun _ _ Z=>?_;simp(disch:=omega);and_intros<;>(try omega);apply Z;refine zI ?_ ?_<;>intro c3<;>try simp at c3
 .refine bF fun _ _ Z=>?_;simp(disch:=omega);apply Z;apply aC;simp [aH];exact⟨Fy,by simp [Fy],aIf,aIk⟩
 apply zA;have hL0:0<L.length:=by
  rcases L with _ | ⟨a,b⟩
  .first | (simp at c2;done) | (simp at c3;done)
  simp
 refine bF fun _ _ Z=>?_;refine zs 3 fun _ Y=>?_;simp(disch:=omega);and_intros<;>(try omega);apply Y;refine aF fun _ Y=>?_;simp(disch:=omega);refine cU (Rl L[0] _ (hLf _ (bP _))) ?_;apply Y;simp(disch:=omega);apply Z;refine zk [0,4,5] ?_;refine bF fun _ _ Z=>?_;refine zs 5 fun _ Y=>?_;simp(disch:=omega);and_intros<;>(try omega);apply Y;refine aF fun _ Y=>?_;simp(disch:=omega);refine Lt (Iz L hLl hLf 25 1 L[0].deep (by omega) (by omega) _) ?_;rintro _ τ1 ⟨⟨ws,j,hr,hj1,hj2,hg,hs⟩,hτ⟩;subst hr hτ;apply Y;simp(disch:=omega);apply Z;refine zk [4,5] ?_;refine bF fun _ _ Z=>?_;simp(disch:=omega);apply Z;apply aC;simp [aH];exact⟨{ vV L[0] with kids:=ws },by simp,aQz _ ws j hg hs (by omega) (by omega)⟩
theorem aOj(l:List FL)(n:Nat)(σ:List (List D))(hn:n<=25)(hl:l.length<=9223372036854775807)(hf:∀f∈l,FO f):Ct prog 27 [.sl false (l.map Qr),D.int n] σ (fun r σ'=>(∃v:VN,r=jQ v/\VG v/\cJ v<=25)/\σ'=σ):=
 (aG2 l n σ hn hl hf).strip fun r σ' h=>⟨h.1.1,h.1.2,h.2⟩
def cV(v:VN):List D:= [D.int v.kind,D.str v.tag,D.str v.key,D.str v.text,.sl false (v.classes.map D.str),.sl false (v.attrs.map cY),.sl false (v.styles.map cQ),D.int v.opts.enter,D.int v.opts.leave,D.int v.opts.move,D.int v.opts.mode,D.bool v.opts.appear,D.bool v.opts.moves,.sl false (v.kids.map nT)]
theorem aVz(v:VN):(nT v).cells=cV v:=by rw [Qn];rfl
theorem qE(l:List VN):(l.map nT).flatMap D.cells=l.flatMap cV:=cT aVz l
theorem wQ(l:List VN):∀d∈l.map nT,d.ncells=14/\d.arr=true:=by
 intro d hd;obtain⟨a,_,rfl⟩:=aX.1 hd;rw [Qn];exact⟨rfl,rfl⟩
@[simp high] theorem Pq(l:List VN):(l.flatMap cV).length=l.length * 14:=dI (f:=cV) (fun _=>rfl) l
theorem aQt(l:List VN)(rest:List D)(i j:Nat)(h:i<l.length)(hj:j<14):(l.flatMap cV++rest)[i * 14+j]?=(cV l[i])[j]?:=Mz (f:=cV) (k:=14) (fun _=>rfl) l rest i j h hj
def txt(v:VN)(s:ByteArray):VN:= { v with text:=s }
theorem aUn(l:List VN)(rest:List D)(i:Nat)(s:ByteArray)(h:i<l.length):(l.flatMap cV++rest).set (i * 14+3) (D.str s)=(l.set i (txt l[i] s)).flatMap cV++rest:=by
 have hp:=pJ (f:=cV) (k:=14) (fun _=>rfl) l i h;rw [sT (f:=cV) l i h,sT (f:=cV) (l.set i (txt l[i] s)) i (by simpa using h),List.take_set_of_le (aV _),List.drop_set_of_lt (by omega),List.getElem_set_self];rw [bW,bW,bW,bW,<- hp,mZ _ _ (by omega)];congr 1;rw [nI];rfl
def kI(k:VN):Bool:= !(decide (k.kind=1) && decide (k.text=⟨#[]⟩))
def nM(out:List VN)(k:VN):List VN:=match out.getLast? with
 | some p=>if p.kind=1/\k.kind=1 then out.set (out.length - 1) (txt p (p.text++k.text))else out++ [k]
 | none=>out++ [k]
def iA(l:List VN):List VN:=l.foldl nM []
theorem wW(l:List VN)(k:VN):iA (l++ [k])=nM (iA l) k:=by unfold iA;rw [jL];rfl
theorem Oa(o:List VN)(k:VN):(nM o k).length<=o.length+1:=by
 unfold nM;split
 .split <;> simp
 simp
theorem oR {o:List VN} {k:VN} (h:∀h:0<o.length,¬(o[o.length - 1].kind=1/\k.kind=1)):nM o k=o++ [k]:=by
 unfold nM;split
 .rename_i p hp;rw [Ff] at hp;obtain⟨h1,h2⟩:=aN.1 hp;rw [aD];rw [<- h2];exact h (by omega)
 rfl
theorem Ba {o:List VN} {k:VN} (h:0<o.length)(h1:o[o.length - 1].kind=1)(h2:k.kind=1):nM o k=o.set (o.length - 1) (txt o[o.length - 1] (o[o.length - 1].text++k.text)):=by
 unfold nM;rw [Ff,aS (by omega)];simp only [h1,h2,and_self,aU]
def fN(v:VN):VN:= { v with classes:=bV v.classes,attrs:=iB nA v.attrs,styles:=iB nP v.styles,kids:=iA ((v.kids.attach.map fun k=>fN k.1).filter kI) }
termination_by SizeOf.sizeOf v
decreasing_by
 have h:=uQ k.2;cases v;simp at h |-;omega
theorem lT(v:VN):fN v= { v with classes:=bV v.classes,attrs:=iB nA v.attrs,styles:=iB nP v.styles,kids:=iA ((v.kids.map fN).filter kI) } :=by
 rw [fN];simp
theorem Ax(v:VN):(fN v).kind=v.kind:=by rw [lT]
theorem vC(v:VN):(fN v).text=v.text:=by rw [lT]
theorem aEa(v:VN):kI (fN v)=kI v:=by unfold kI;rw [Ax,vC]
theorem Nq {B C:Nat} {o:List VN} {k:VN} (ho:∀x∈o,x.text.size<=B)(hk:k.text.size<=C):∀x∈nM o k,x.text.size<=B+C:=by
 intro x hx;unfold nM at hx;have hq:∀y,y∈o++ [k]->y.text.size<=B+C:=fun y hy=>by
  rcases bR.1 hy with h | h
  .have:=ho y h;omega
  rw [fK.1 h];omega
 split at hx
 .rename_i p hp;split at hx
  .rcases Nv hx with h | h
   .have:=ho x h;omega
   rw [h];have hm:p∈o:=List.mem_of_getLast? hp;have:=ho p hm;simp only [txt,ByteArray.size_append];omega
  exact hq x hx
 exact hq x hx
def Lv(v:VN)(j:Nat):List VN:=iA (((v.kids.take j).map fN).filter kI)
theorem aKt(v:VN):Lv v 0= []:=rfl
theorem Ii(v:VN):∀j,(Lv v j).length<=j
 | 0=>by simp [aKt]
 | j + 1 => by
  by_cases h:j<v.kids.length
  .unfold Lv;rw [bS _ _ h,cN,fY,cE,iW];by_cases hk:kI (fN v.kids[j])=true
   .rw [pY hk,lG,wW];have:=Oa (iA (((v.kids.take j).map fN).filter kI)) (fN v.kids[j]);have:=Ii v j;unfold Lv at this;omega
   rw [rX hk,lG,gG];have:=Ii v j;unfold Lv at this;omega
  have h1:=Ii v j;unfold Lv at h1 |-;rw [cC (by omega)] at h1 |-;omega
theorem Wn {v:VN} (h:j<v.kids.length)(hk:kI (fN v.kids[j])=false):Lv v (j+1)=Lv v j:=by
 unfold Lv;rw [bS _ _ h,cN,fY,cE,iW,rX (by simp [hk]),lG,gG]
theorem wX {v:VN} (h:j<v.kids.length)(hk:kI (fN v.kids[j])=true):Lv v (j+1)=nM (Lv v j) (fN v.kids[j]):=by
 unfold Lv;rw [bS _ _ h,cN,fY,cE,iW,pY hk,lG,wW]
theorem aBs {v:VN} {B:Nat} (h:∀k∈v.kids,k.text.size<=B):∀j,j<=v.kids.length->∀k∈Lv v j,k.text.size<=j * B
 | 0,_=>fun k hk=>by rw [aKt] at hk;cases hk
 | j + 1, hj => fun k hk => by
  have ih:=aBs h j (by omega);have eB:(j+1) * B=j * B+B:=uC j B;rw [eB];cases e:kI (fN v.kids[j])with
  | false=>rw [Wn (by omega) e] at hk;have:=ih k hk;omega
  | true=>
   rw [wX (by omega) e] at hk;exact Nq ih (by rw [vC];exact h _ (bP _)) k hk
theorem aPw(v:VN):Lv v v.kids.length=(fN v).kids:=by rw [lT];unfold Lv;rw [eP]
theorem aBz(l:List PI)(σ:List (List D))(hl:l.length<=999999):Ct prog 108 [.sl false (l.map cQ)] σ (fun r σ'=>r= .sl false ((iB nP l).map cQ)/\σ'=σ):=(Ev l σ hl).freeze fun r σ' h=>h
theorem aB7(l:List AT)(σ:List (List D))(hl:l.length<=999999):Ct prog 107 [.sl false (l.map cY)] σ (fun r σ'=>r= .sl false ((iB nA l).map cY)/\σ'=σ):=(Gk l σ hl).freeze fun r σ' h=>h
theorem iS(σ:List (List D))(k:Nat)(c:List D):(σ++(List.replicate k []++ [c]))[σ.length+k]?=some c:=by
 rw [bX (by omega),bX (by simp)];simp
theorem bC(σ:List (List D))(k:Nat)(c x:List D):(σ++(List.replicate k []++ [c])).set (σ.length+k) x=σ++(List.replicate k []++ [x]):=by
 rw [mZ _ _ (by omega),mZ _ _ (by simp)];simp
theorem pF(k:Nat):List.replicate k ([]:List D)++ [[]]=List.replicate (k+1) []:=(List.replicate_succ' ..).symm
abbrev VSz(v:VN):Prop:=v.classes.length<=9999/\v.attrs.length<=9999/\v.styles.length<=9999/\v.kids.length<=9999/\∀k∈v.kids,k.text.size<=9999
abbrev aQ8(v:VN):Prop:=∀σ:List (List D),Ct prog 50 [jQ v] σ (fun r σ'=>r=jQ (fN v)/\σ'=σ)
theorem aWd(ks:List VN)(rest:List D)(h:0<ks.length):(∀h',(ks.flatMap cV++rest)[(ks.length - 1) * 14]'h'=D.int ks[ks.length - 1].kind)/\∀h',(ks.flatMap cV++rest)[(ks.length - 1) * 14+3]'h'=D.str ks[ks.length - 1].text:=by
 refine⟨fun h'=>?_,fun h'=>?_⟩
 .have:=aQt ks rest (ks.length - 1) 0 (by omega) (by decide);rw [kD,aS h'] at this;simpa [cV] using this
 have:=aQt ks rest (ks.length - 1) 3 (by omega) (by decide);rw [aS h'] at this;simpa [cV] using this
theorem aUt(ks:List VN)(rest:List D)(h:0<ks.length)(s:ByteArray):List.take ((ks.length - 1) * 14+3) (ks.flatMap cV++rest)++D.str s::List.drop ((ks.length - 1) * 14+3+1) (ks.flatMap cV++rest)=(ks.set (ks.length - 1) (txt ks[ks.length - 1] s)).flatMap cV++rest:=by
 rw [<- aUn ks rest (ks.length - 1) s (by omega),Nm,aL];rw [aY,Pq];omega
@[simp] abbrev q35_3:Cfg:=⟨[3,31],[],[],[29,55,62,68,34],[]⟩
theorem aKn (v : VN) (σ : List (List D)) (h : VSz v) (ih : ∀ k ∈ v.kids, aQ8 k) : Ct prog 50 [jQ v] σ (fun r σ' => (r.plain = true /\ r.strip = jQ (fN v)) /\ ∃ J, σ' = σ ++ J) := by
 refine zf func50 ?_;obtain⟨h1,h2,h3,h4,h5⟩:=h;refine zr q35_3 fun _ _ Z=>?_;simp(disch:=omega)[iS,bC];apply Z;refine zd q35_3 [.op {},.op {rL:=true},.pure,.op {},.op {rL:=true},.pure,.op {},.op {rL:=true},.pure,.op {},.op {rL:=true,wL:=true},.op {},.op {rL:=true,wL:=true},.op {},.op {rL:=true,wL:=true}] fun all hall _ Z=>?_;refine lN 2 fun _ Y=>?_;simp(disch:=omega)[iS,bC];apply Y;refine cK fun _ Y=>?_;simp(disch:=omega)[iS,bC];refine zW (fun _=>(Bx v.classes _ (by omega))) ?_;apply Y;refine lN 2 fun _ Y=>?_;simp(disch:=omega)[iS,bC];apply Y;refine cK fun _ Y=>?_;simp(disch:=omega)[iS,bC];refine zW (fun _=>(aB7 v.attrs _ (by omega))) ?_;apply Y;refine lN 2 fun _ Y=>?_;simp(disch:=omega)[iS,bC];apply Y;refine cK fun _ Y=>?_;simp(disch:=omega)[iS,bC];refine zW (fun _=>(aBz v.styles _ (by omega))) ?_;apply Y;simp(disch:=omega)[iS,bC];apply Z;refine zk [1,2] ?_;refine zr q35_3 fun _ _ Z=>?_;simp(disch:=omega)[iS,bC];apply Z;apply aE;refine zr q35_3 fun _ _ Z=>?_;simp(disch:=omega)[iS,bC];and_intros<;>(try omega);apply Z;apply aR;refine zk [1,2,3,20,21,22] ?_;refine Bz 3 14 (by simp <;> rfl) ?_;refine nK (fun(j:Nat)=> [(22,.d (.v (.int .i64 (j:Int)))),(3,.d (.xs 14 ((Lv v j).map nT))),(6,.d (.any))]) (fun(j:Nat)=> [[D.int v.kind,D.str v.tag,D.str v.key,D.str v.text,.sl true ((bV v.classes).map D.str),.sl false ((iB nA v.attrs).map cY),.sl false ((iB nP v.styles).map cQ),D.int v.opts.enter,D.int v.opts.leave,D.int v.opts.move,D.int v.opts.mode,D.bool v.opts.appear,D.bool v.opts.moves,.sl false (v.kids.map nT)], [D.int 0,D.str ⟨#[]⟩,D.str ⟨#[]⟩,D.str ⟨#[]⟩,.sl true [],.sl true [],.sl true [],D.int 0,D.int 0,D.int 0,D.int 0,D.bool false,D.bool false,.sl true []]]) (fun(j:Nat)=>σ++List.replicate j []) [3,5,6,22,23,24,25,26,27,28,29,30,31,32,33,34,35,36,37,38,39,40,41,42,43,44,45,46,47,48,49,50,51,52,53,54,55,56,57,58,59,60,61,62,63,64,65,66,67,68,69,70] (fun(j:Nat)=>j<=v.kids.length) (fun(j:Nat)=>v.kids.length - j) (0) (by simp <;> rfl) ?_ (by simp) (by simp) ?_ ?_
 .simp [aKt]
 .simp
 rintro j hj;simp only [aQ,aP];have hnl:=Ii v j;obtain⟨ks,hks⟩:∃ks,Lv v j=ks:=⟨_,rfl⟩;rw [hks] at hnl |-;refine iO 3 14 (by simp <;> rfl) (by decide) fun cap rest hcap hcm hrest hk0 hes=>?_;simp only [bQ] at hcap hrest |-;rw [qE];have hrl:rest.length=(cap - ks.length) * 14:=by rw [hrest,cO]
 clear hrest;have hdl:ks.length * 14+rest.length=cap * 14:=by omega
 have hdl2:(ks.flatMap cV++rest).length=cap * 14:=by rw [aY,Pq];exact hdl
 simp only [aY,cO,bW];refine zr q35_3 fun _ _ Z=>?_;simp(disch:=omega)[iS,bC];apply Z;apply aE;refine zI ?_ ?_<;>intro c1<;>try simp at c1
 .apply kP;refine zr q35_3 fun _ _ Z=>?_;simp (disch:=omega)[iS,bC];and_intros<;>(try omega);apply Z;refine zr q35_3 fun _ _ Z=>?_;refine zs 1 fun _ Y=>?_;simp (disch:=omega)[iS,bC];apply Y;refine aF fun _ Y=>?_;simp (disch:=omega)[iS,bC];refine cU (ih v.kids[j] (bP _) _) ?_;obtain ⟨q, hq⟩ : ∃ q, fN v.kids[j] = q := ⟨_, rfl⟩;rw [hq];apply Y;simp (disch:=omega)[iS,bC];apply Z;refine zk [1,2,3,5,6,20,21,22] ?_;refine zr q35_3 fun _ _ Z=>?_;simp (disch:=omega)[iS,bC];and_intros<;>(try omega);apply Z;apply aR;refine zk [1,2,3,5,6,20,21,22] ?_;refine mK q35_3 fun all hall _ Z=>?_;have ga3 : aO all 3 = some 39 := hall 3;refine zs 4 fun _ Y=>?_;simp (disch:=omega)[iS,bC,ga3];apply Y;refine zb 39 ?_ ?_<;>intro g2<;>try simp at g2
  .simp (disch:=omega)[iS,bC,ga3];apply Z;refine zI ?_ ?_<;>intro c3<;>try simp at c3
   .have hnx:Lv v (j+1)=ks:=by rw [Wn c1 (by rw [hq];simp [kI,g2,c3]),hks]
    refine fD 3 14 (σ.length+j) ks.length cap ((ks).map nT) ((ks).flatMap cV++rest) (by simp <;> rfl) (by simp [iS]) (by decide) (by simp only [aY,Pq,bY];omega) (by simp) (wQ _) (by rw [qE];exact cZ _ _) ?_;apply xJ;apply kV;apply zB;refine zk [1,2,3,6,20,21,22] ?_;refine zt q35_3 fun _ _ Z=>?_;simp(disch:=omega)[iS,bC];and_intros<;>(try omega);apply Z;refine fU (j+1) ?_ ?_ (eN rfl ?_ (by simp) (by simp [pF]))
    .omega
    .try dsimp only
     omega
    simp(disch:=omega)[iS,bC,hnx]
   refine zk [1,2,3,5,6,20,21,22] ?_;refine mK q35_3 fun all hall _ Z=>?_;have ga3:aO all 3=some 48:=hall 3;have ga7:aO all 7=some 52:=hall 7;refine zs 4 fun _ Y=>?_;simp(disch:=omega)[iS,bC,ga3,ga7];apply Y;refine zb 48 ?_ ?_<;>intro g4<;>try simp at g4
   .refine zs 4 fun _ Y=>?_;simp(disch:=omega)[iS,bC,ga3,ga7];apply Y;refine zb 52 ?_ ?_<;>intro g5<;>try simp at g5
    .have hkp:kI q=true:=by simp [kI,c3]
     have hk1:0<ks.length:=by omega
     obtain⟨hr0,hr3⟩:=aWd ks rest hk1;simp(disch:=omega)[iS,bC,ga3,ga7,hr0,hr3];and_intros<;>(try omega);apply Z;refine zI ?_ ?_<;>intro c6<;>try simp at c6
     .have hnx:Lv v (j+1)=ks.set (ks.length - 1) (txt ks[ks.length - 1] (ks[ks.length - 1].text++q.text)):=by rw [wX c1 (by rw [hq];exact hkp),hks,hq,Ba hk1 c6 g2]
      have hsz:ks[ks.length - 1].text.size+q.text.size<=9223372036854775807:=by
        have ha:=aBs h5 j (by omega);rw [hks] at ha;have hj9:j * 9999<=9999 * 9999:=fS _ (by omega);have ha:=ha _ (bP (by omega:ks.length - 1<ks.length));have hb:=h5 v.kids[j] (bP _);rw [<- vC,hq] at hb;omega
      have hwr:=aUt ks rest hk1 (ks[ks.length - 1].text++q.text);refine zk [1,2,3,5,6,20,21,22] ?_;refine ze q35_3 [.op {},.op {},.op {},.op {},.op {rO:=true},.op {},.op {rL:=true},.op {},.op {},.op {},.op {rO:=true,wO:=true}] fun all hall _ Z=>?_;refine lN 8 fun _ Y=>?_;simp(disch:=omega)[iS,bC,hr0,hr3,hwr];and_intros<;>(try omega);apply Y;simp(disch:=omega)[iS,bC,hr0,hr3,hwr];and_intros<;>(try omega);apply Z;apply kV;apply zB;refine fD 3 14 (σ.length+j) ks.length cap ((ks.set (ks.length - 1) (txt ks[ks.length - 1] (ks[ks.length - 1].text++q.text))).map nT) ((ks.set (ks.length - 1) (txt ks[ks.length - 1] (ks[ks.length - 1].text++q.text))).flatMap cV++rest) (by simp <;> rfl) (by simp [iS]) (by decide) (by simp only [aY,Pq,bY];omega) (by simp) (wQ _) (by rw [qE];exact cZ _ _) ?_;refine zk [1,2,3,6,20,21,22] ?_;refine zt q35_3 fun _ _ Z=>?_;simp(disch:=omega)[iS,bC,hr0,hr3,hwr];and_intros<;>(try omega);apply Z;refine fU (j+1) ?_ ?_ (eN rfl ?_ (by simp) (by simp [pF]))
      .omega
      .try dsimp only
       omega
      simp(disch:=omega)[iS,bC,hnx,hr0,hr3,hwr]
     have hnx:Lv v (j+1)=ks++ [q]:=by rw [wX c1 (by rw [hq];exact hkp),hks,hq,oR fun _ h=>c6 h.1]
     refine zk [1,2,3,5,6,20,21,22] ?_;refine zt q35_3 fun _ _ Z=>?_;refine zs 4 fun _ Y=>?_;simp(disch:=omega)[iS,bC];refine⟨by first | rfl | exact⟨rfl,rfl⟩ | trivial,_,ks.map nT,⟨rfl,hdl2,by simp,wQ ks,by rw [qE];exact cZ _ _,by simp;omega,by simp [maxLen];omega⟩,?_⟩;and_intros<;>(try omega);apply Y;simp(disch:=omega)[iS,bC];apply Z;apply kV;apply zB;refine zk [1,2,3,6,20,21,22] ?_;refine zt q35_3 fun _ _ Z=>?_;simp(disch:=omega)[iS,bC];and_intros<;>(try omega);apply Z;refine fU (j+1) ?_ ?_ (eN rfl ?_ (by simp) (by simp [pF]))
     .omega
     .try dsimp only
      omega
     simp(disch:=omega)[iS,bC,hnx]
    have hkp:kI q=true:=by simp [kI,c3]
    have hnx:Lv v (j+1)=ks++ [q]:=by rw [wX c1 (by rw [hq];exact hkp),hks,hq,oR fun h _=>absurd h (by omega)]
    simp(disch:=omega)[iS,bC,ga3,ga7];apply Z;refine aZ (t:=false) (by simp) (fun h=>by cases h) (fun _=>?_);refine zk [1,2,3,5,6,20,21,22] ?_;refine zt q35_3 fun _ _ Z=>?_;refine zs 4 fun _ Y=>?_;simp(disch:=omega)[iS,bC];refine⟨by first | rfl | exact⟨rfl,rfl⟩ | trivial,_,ks.map nT,⟨rfl,hdl2,by simp,wQ ks,by rw [qE];exact cZ _ _,by simp;omega,by simp [maxLen];omega⟩,?_⟩;and_intros<;>(try omega);apply Y;simp(disch:=omega)[iS,bC];apply Z;apply kV;apply zB;refine zk [1,2,3,6,20,21,22] ?_;refine zt q35_3 fun _ _ Z=>?_;simp(disch:=omega)[iS,bC];and_intros<;>(try omega);apply Z;refine fU (j+1) ?_ ?_ (eN rfl ?_ (by simp) (by simp [pF]))
    .omega
    .try dsimp only
     omega
    simp(disch:=omega)[iS,bC,hnx]
   exact absurd g2 g4
  have hnx:Lv v (j+1)=ks++ [q]:=by rw [wX c1 (by rw [hq];simp [kI,g2]),hks,hq,oR fun _ h=>g2 h.2]
  simp(disch:=omega)[iS,bC,ga3];apply Z;refine aZ (t:=false) (by simp) (fun h=>by cases h) (fun _=>?_);refine zk [1,2,3,5,6,20,21,22] ?_;refine mK q35_3 fun all hall _ Z=>?_;have ga3:aO all 3=some 48:=hall 3;have ga7:aO all 7=some 52:=hall 7;refine zs 4 fun _ Y=>?_;simp(disch:=omega)[iS,bC,ga3,ga7];apply Y;refine zb 48 ?_ ?_<;>intro g7<;>try simp at g7
  .exact absurd g7 g2
  refine zs 4 fun _ Y=>?_;simp(disch:=omega)[iS,bC,ga3,ga7];apply Y;simp(disch:=omega)[iS,bC,ga3,ga7];apply Z;refine aZ (t:=false) (by simp) (fun h=>by cases h) (fun _=>?_);refine zk [1,2,3,5,6,20,21,22] ?_;refine zt q35_3 fun _ _ Z=>?_;refine zs 4 fun _ Y=>?_;simp(disch:=omega)[iS,bC];refine⟨by first | rfl | exact⟨rfl,rfl⟩ | trivial,_,ks.map nT,⟨rfl,hdl2,by simp,wQ ks,by rw [qE];exact cZ _ _,by simp;omega,by simp [maxLen];omega⟩,?_⟩;and_intros<;>(try omega);apply Y;simp(disch:=omega)[iS,bC];apply Z;apply kV;apply zB;refine zk [1,2,3,6,20,21,22] ?_;refine zt q35_3 fun _ _ Z=>?_;simp(disch:=omega)[iS,bC];and_intros<;>(try omega);apply Z;refine fU (j+1) ?_ ?_ (eN rfl ?_ (by simp) (by simp [pF]))
  .omega
  .try dsimp only
   omega
  simp(disch:=omega)[iS,bC,hnx]
 obtain rfl:j=v.kids.length:=by omega
 apply zE;refine zr q35_3 fun _ _ Z=>?_;simp(disch:=omega)[iS,bC];apply Z;refine Hj 0 13 (σ.length+v.kids.length) ks.length cap 14 _ _ (ks.map nT) rfl rfl (by simp [iS]) (by decide) hdl2 (by simp) (wQ _) (by rw [qE];exact cZ _ _) ?_;simp only [iQ,iY];refine zr q35_3 fun _ _ Z=>?_;simp(disch:=omega)[iS,bC];apply Z;apply aC;simp [aH];rw [lT,<- hks,aPw,lT];simp
theorem aA8(N:Nat)(v:VN):Sc N (jQ v):=Sc.agg fun d hd=>by
 simp only [bN,iK,iH] at hd;rcases hd with rfl | rfl | rfl | rfl | rfl | rfl | rfl | rfl | rfl | rfl | rfl | rfl | rfl | rfl
 .exact Sc.v _
 .exact Sc.v _
 .exact Sc.v _
 .exact Sc.v _
 .exact Sc.sl (Sc.map fun a=>Zk _ a)
 .exact Sc.sl (Sc.map fun a=>Zd _ a)
 .exact Sc.sl (Sc.map fun a=>Yq _ a)
 .exact Sc.v _
 .exact Sc.v _
 .exact Sc.v _
 .exact Sc.v _
 .exact Sc.v _
 .exact Sc.v _
 refine Sc.sl fun d hd=>?_;obtain⟨k,hk,e⟩:=aX.1 hd;rw [<- e,Qn];exact aA8 N k
termination_by SizeOf.sizeOf v
decreasing_by
 have h:=uQ hk;cases v;simp at h |-;omega
theorem eL {v k:VN} (h:k∈v.kids):cJ k+1<=cJ v:=by
 rw [jI v];have:∀l:List VN,k∈l->cJ k<=(l.map cJ).sum:=by
  intro l;induction l with
  | nil=>intro h;cases h
  | cons a l ih=>
   intro h;simp only [cE,iX];rcases bN.1 h with rfl | h
   .omega
   have:=ih h;omega
 have:=this v.kids h;omega
theorem lP(v:VN):v.kids.length+1<=cJ v:=by
 rw [jI v];have:∀l:List VN,l.length<=(l.map cJ).sum:=by
  intro l;induction l with
  | nil=>simp
  | cons a l ih=>
   have:=jI a;simp only [cE,iX,bT];omega
 have:=this v.kids;omega
theorem VG.f {v:VN} (h:VG v):VF v:=by cases h;assumption
theorem VG.k {v:VN} (h:VG v):∀k∈v.kids,VG k:=by cases h;assumption
theorem VG.sz {v:VN} (h:VG v)(hc:cJ v<=9999):VSz v:=by
 obtain⟨a,b,c,d, -⟩:=h.f;have:=lP v;exact⟨by omega,by omega,by omega,by omega,fun k hk=>by have:=(h.k k hk).f.2.2.2.1;omega⟩
theorem aCc(v:VN)(h:VG v)(hc:cJ v<=9999):aQ8 v:=fun σ=>
 have h1:Ct prog 50 [jQ v] σ (fun r σ'=>r=jQ (fN v)/\∃J,σ'=σ++J):=(aKn v σ (h.sz hc) fun k hk=>aCc k (h.k k hk) (by have:=eL hk;omega)).strip fun r σ' h=>⟨h.1.1,h.1.2,h.2⟩
 h1.trim fun r σ' ⟨hr,J,hs⟩=>⟨σ,J,hs,rfl,by rw [hr];exact aA8 _ _,fun n cs h=> .inl h,hr,rfl⟩
termination_by cJ v
decreasing_by
 have:=eL hk;omega
theorem Uk {β:Type} {n1:α->ByteArray} {n2:β->ByteArray} {f:α->β} (h:∀a,n2 (f a)=n1 a):∀(l:List α) (p:α),(fQ n1 l p).map f=fQ n2 (l.map f) (f p)
 | [],p=>rfl
 | q::l,p=>by
  simp only [fQ,cE,h];split
  .rw [cE,Uk h l p]
  split <;> simp
theorem aQj {β:Type} {n1:α->ByteArray} {n2:β->ByteArray} {f:α->β} (h:∀a,n2 (f a)=n1 a)(l:List α):(iB n1 l).map f=iB n2 (l.map f):=by
 have:∀(l o:List α),(l.foldl (fQ n1) o).map f=(l.map f).foldl (fQ n2) (o.map f):=by
  intro l;induction l with
  | nil=>intro o;rfl
  | cons a l ih=>intro o;simp only [dM,cE];rw [ih,Uk h]
 exact this l []
def zO(l:List AT)(k:Nat):List PI:=(List.range k).map fun i=>⟨(l.getD i ⟨⟨#[]⟩,⟨#[]⟩⟩).name,i⟩
def Nn(l:List AT)(p:PI):AT:=⟨p.name,(l.getD p.value.toNat ⟨⟨#[]⟩,⟨#[]⟩⟩).value⟩
theorem aCh(l:List AT) {k:Nat} (h:k<l.length):zO l (k+1)=zO l k++ [⟨l[k].name,k⟩]:=by
 unfold zO;rw [uZ,cN];simp [List.getD,h]
theorem Iu(l:List AT)(k:Nat):(zO l k).length=k:=by simp [zO]
theorem Cu {nm:α->ByteArray} {l:List α} {x:α} (h:x∈iB nm l):x∈l:=by
 have:∀(l o:List α),x∈l.foldl (fQ nm) o->x∈o\/x∈l:=by
  intro l;induction l with
  | nil=>intro o h;exact .inl h
  | cons a l ih =>
   intro o h;rcases ih _ h with h | h
   .rcases Dk nm h with rfl | h
    .exact .inr dY
    exact .inl h
   exact .inr (fW _ h)
 rcases this l [] h with h | h
 .cases h
 exact h
theorem aOv {l:List AT} {S:List PI} (hS:iB nP (zO l l.length)=S) (hj:j<S.length):∃i:Nat,∃h:i<l.length,S[j].value=(i:Int)/\Nn l S[j]=l[i]:=by
 have h0:S[j]∈zO l l.length:=by
  have:=bP hj;generalize S[j]=y at this |-;rw [<- hS] at this;exact Cu this
 generalize S[j]=y at h0 |-;unfold zO at h0;obtain⟨i,hi,e⟩:=aX.1 h0;have hi:=dZ.1 hi;refine⟨i,hi,by rw [<- e],?_⟩;rw [<- e];simp [Nn,List.getD,hi]
def Sh(l:List AT)(S:List PI)(j:Nat):List AT:=(S.take j).map (Nn l)
theorem aJ5(l:List AT)(S:List PI)(j:Nat):(Sh l S j).length<=j:=by unfold Sh;simp;omega
theorem aCg(l:List AT) {S:List PI} (h:j<S.length) {x:AT} (hx:Nn l S[j]=x):Sh l S (j+1)=Sh l S j++ [x]:=by
 unfold Sh;rw [bS S j h,cN,cE,iW,hx]
theorem aF9(l:List AT):(iB nP (zO l l.length)).map (Nn l)=iB nA l:=by
 rw [aQj (n1:=nP) (n2:=nA) (fun _=>rfl)];congr 1;refine Gg (by simp [zO]) fun i h1 h2=>?_;simp [zO,Nn,List.getD,h2]
@[simp] abbrev q35_4:Cfg:=⟨[2,3,6,17,33,42],[],[],[],[]⟩
theorem aFt(l:List AT)(σ:List (List D))(hl:l.length<=9999):Ct prog 97 [.sl false (l.map cY)] σ (fun r σ'=>r= .sl true ((iB nA l).map cY)/\σ'=σ):=by
 refine zf func97 ?_;refine zr q35_4 fun _ _ Z=>?_;simp(disch:=omega);apply Z;refine zr q35_4 fun _ _ Z=>?_;simp(disch:=omega);and_intros<;>(try omega);apply Z;apply aE;refine zr q35_4 fun _ _ Z=>?_;simp(disch:=omega);and_intros<;>(try omega);apply Z;apply aR;refine zk [0,2,3,10,11,12] ?_;refine bA (fun(k:Nat)=> [(12,.d (.v (.int .i64 (k:Int)))),(3,.d (.sl true ((zO l k).map cQ))),(4,.d (.any)),(5,.d (.any))]) [3,4,5,12,13,14,15,16,17,18,19,20,21,22,23,24] (fun(k:Nat)=>k<=l.length) (fun(k:Nat)=>l.length - k) (0) (by simp <;> rfl) ?_ ?_ ?_
 .simp [zO]
 .simp
 rintro k hk;simp only [aQ,aP];have hnl:=Iu l k;refine zr q35_4 fun _ _ Z=>?_;simp(disch:=omega);apply Z;apply aE;refine zI ?_ ?_<;>intro c1<;>try simp at c1
 .have hnx:=aCh l c1;apply kP;refine zr q35_4 fun _ _ Z=>?_;simp(disch:=omega);and_intros<;>(try omega);apply Z;refine zk [0,2,3,4,5,10,11,12] ?_;refine zt q35_4 fun _ _ Z=>?_;simp(disch:=omega);and_intros<;>(try omega);apply Z;apply zB;refine zk [0,2,3,4,5,10,11,12] ?_;refine zt q35_4 fun _ _ Z=>?_;simp(disch:=omega);and_intros<;>(try omega);apply Z;refine zq (k+1) ?_ ?_ ?_
  .omega
  .try dsimp only
   omega
  simp(disch:=omega)[hnx]
 obtain rfl:k=l.length:=by omega
 apply zE;refine zr q35_4 fun _ _ Z=>?_;simp(disch:=omega);and_intros<;>(try omega);apply Z;apply aE;refine zr q35_4 fun _ _ Z=>?_;refine zs 1 fun _ Y=>?_;simp(disch:=omega);apply Y;refine aF fun _ Y=>?_;simp(disch:=omega);refine cU (Qx (zO l l.length) _ (by rw [Iu];omega)) ?_;obtain⟨S,hS⟩:∃S,iB nP (zO l l.length)=S:=⟨_,rfl⟩;have hSl:S.length<=9999:=by rw [<- hS];have:=jC nP (zO l l.length);rw [Iu] at this;omega
 rw [hS];apply Y;simp(disch:=omega);and_intros<;>(try omega);apply Z;apply aR;refine zk [0,2,6,27,28,29] ?_;refine bA (fun(j:Nat)=> [(29,.d (.v (.int .i64 (j:Int)))),(6,.d (.sl true ((Sh l S j).map cY))),(8,.d (.any))]) [6,8,29,30,31,32,33,34,35,36,37,38,39,40,41] (fun(j:Nat)=>j<=S.length) (fun(j:Nat)=>S.length - j) (0) (by simp <;> rfl) ?_ ?_ ?_
 .simp [Sh]
 .simp
 rintro j hj;simp only [aQ,aP];have hsl:=aJ5 l S j;refine zr q35_4 fun _ _ Z=>?_;simp(disch:=omega);apply Z;apply aE;refine zI ?_ ?_<;>intro c2<;>try simp at c2
 .obtain⟨i,hil,hiv,hip⟩:=aOv hS c2;have hnx:=aCg l c2 hip;apply kP;refine zr q35_4 fun _ _ Z=>?_;simp(disch:=omega)[hiv];and_intros<;>(try omega);apply Z;refine zt q35_4 fun _ _ Z=>?_;refine zs 8 fun _ Y=>?_;simp(disch:=omega)[hiv];and_intros<;>(try omega);apply Y;simp(disch:=omega)[hiv];apply Z;apply zB;refine zk [0,2,6,8,27,28,29] ?_;refine zt q35_4 fun _ _ Z=>?_;simp(disch:=omega)[hiv];and_intros<;>(try omega);apply Z;refine zq (j+1) ?_ ?_ ?_
  .omega
  .try dsimp only
   omega
  simp(disch:=omega)[hnx,hiv]
 obtain rfl:j=S.length:=by omega
 have hall:Sh l S S.length=iB nA l:=by unfold Sh;rw [eP,<- hS];exact aF9 l
 apply zE;refine zr q35_4 fun _ _ Z=>?_;simp(disch:=omega);apply Z;apply aC;simp [aH,hall]
end Go.Proofs.YtbgfljpnhhdkoaaGreat
