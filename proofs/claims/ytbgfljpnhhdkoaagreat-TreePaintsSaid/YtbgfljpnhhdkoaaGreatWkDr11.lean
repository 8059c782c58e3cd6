import Derived.Test.YtbgfljpnhhdkoaaGreatVmX15
set_option linter.all false
set_option maxRecDepth 20000
set_option maxHeartbeats 8000000
open Go.Proofs.Tryz
namespace Go.Proofs.YtbgfljpnhhdkoaaGreat
open Go Go.Vm
variable {j:Nat}{α:Type}
structure OPT where
 enter:Int
 leave:Int
 move:Int
 mode:Int
 appear:Bool
 moves:Bool
 deriving DecidableEq
@[simp] abbrev aWp(s:OPT):D:= .agg [.v (.int .i64 s.enter),.v (.int .i64 s.leave),.v (.int .i64 s.move),.v (.int .i64 s.mode),.v (.bool s.appear),.v (.bool s.moves)]
structure FL where
 deep:Int
 kind:Int
 tag:ByteArray
 key:ByteArray
 text:ByteArray
 classes:(List ByteArray)
 attrs:(List AT)
 styles:(List PI)
 opts:OPT
 deriving DecidableEq
@[simp] abbrev Rk(s:FL):D:= .agg [.v (.int .i64 s.deep),.v (.int .i64 s.kind),.v (.string s.tag),.v (.string s.key),.v (.string s.text),.sl false (s.classes.map D.str),.sl false (s.attrs.map cY),.sl false (s.styles.map cR),.v (.int .i64 s.opts.enter),.v (.int .i64 s.opts.leave),.v (.int .i64 s.opts.move),.v (.int .i64 s.opts.mode),.v (.bool s.opts.appear),.v (.bool s.opts.moves)]
@[simp] abbrev bAa(s:FL):D:= .agg [.v (.int .i64 s.deep),.v (.int .i64 s.kind),.v (.string s.tag),.v (.string s.key),.v (.string s.text),.sl true (s.classes.map D.str),.sl true (s.attrs.map cY),.sl true (s.styles.map cR),.v (.int .i64 s.opts.enter),.v (.int .i64 s.opts.leave),.v (.int .i64 s.opts.move),.v (.int .i64 s.opts.mode),.v (.bool s.opts.appear),.v (.bool s.opts.moves)]
structure VN where
 kind:Int
 tag:ByteArray
 key:ByteArray
 text:ByteArray
 classes:(List ByteArray)
 attrs:(List AT)
 styles:(List PI)
 opts:OPT
 kids:(List VN)
def pF(s:VN):D:= .agg [.v (.int .i64 s.kind),.v (.string s.tag),.v (.string s.key),.v (.string s.text),.sl false (s.classes.map D.str),.sl false (s.attrs.map cY),.sl false (s.styles.map cR),.v (.int .i64 s.opts.enter),.v (.int .i64 s.opts.leave),.v (.int .i64 s.opts.move),.v (.int .i64 s.opts.mode),.v (.bool s.opts.appear),.v (.bool s.opts.moves),.sl false (s.kids.attach.map fun k=>pF k.1)]
termination_by SizeOf.sizeOf s
decreasing_by
 have h:=pA k.2;cases s;simp at h |-;omega
@[simp] abbrev kJ(s:VN):D:= .agg [.v (.int .i64 s.kind),.v (.string s.tag),.v (.string s.key),.v (.string s.text),.sl false (s.classes.map D.str),.sl false (s.attrs.map cY),.sl false (s.styles.map cR),.v (.int .i64 s.opts.enter),.v (.int .i64 s.opts.leave),.v (.int .i64 s.opts.move),.v (.int .i64 s.opts.mode),.v (.bool s.opts.appear),.v (.bool s.opts.moves),.sl false (s.kids.map pF)]
@[simp] abbrev bA1(s:VN):D:= .agg [.v (.int .i64 s.kind),.v (.string s.tag),.v (.string s.key),.v (.string s.text),.sl true (s.classes.map D.str),.sl true (s.attrs.map cY),.sl true (s.styles.map cR),.v (.int .i64 s.opts.enter),.v (.int .i64 s.opts.leave),.v (.int .i64 s.opts.move),.v (.int .i64 s.opts.mode),.v (.bool s.opts.appear),.v (.bool s.opts.moves),.sl true (s.kids.map pF)]
@[simp] theorem Rs(s:VN):pF s=kJ s:=by rw [pF];simp
def Fc(l:Ls)(n:Nat):Ls:=(l.take n).map (tY 20)
def aYn(p:PI):PI:=⟨tY 20 p.name,p.value⟩
def aY4(p:AT):AT:=⟨tY 20 p.name,tY 40 p.value⟩
def Fu(l:List PI)(n:Nat):List PI:=(l.take n).map aYn
def Km(l:List AT)(n:Nat):List AT:=(l.take n).map aY4
theorem aFz(l:List ByteArray)(k:Nat)(h:k<l.length):Fc l (k+1)=Fc l k++ [tY 20 l[k]]:=by
 unfold Fc;rw [bJ l k h,cZ];rfl
theorem aS9(l:List ByteArray):Fc l 0= []:=rfl
theorem We(l:List ByteArray)(n:Nat):(Fc l n).length<=n:=by simp [Fc];omega
theorem aIv(l:List ByteArray)(k n:Nat)(h:l.length<=k)(hn:k<=n):Fc l k=Fc l n:=by
 unfold Fc;rw [bZ h,bZ (qB h hn)]
theorem aG6(l:List PI)(k:Nat)(h:k<l.length):Fu l (k+1)=Fu l k++ [⟨tY 20 l[k].name,l[k].value⟩]:=by
 unfold Fu;rw [bJ l k h,cZ];rfl
theorem aT9(l:List PI):Fu l 0= []:=rfl
theorem Vj(l:List PI)(n:Nat):(Fu l n).length<=n:=by simp [Fu];omega
theorem aMb(l:List PI)(k n:Nat)(h:l.length<=k)(hn:k<=n):Fu l k=Fu l n:=by
 unfold Fu;rw [bZ h,bZ (qB h hn)]
theorem aF4(l:List AT)(k:Nat)(h:k<l.length):Km l (k+1)=Km l k++ [⟨tY 20 l[k].name,tY 40 l[k].value⟩]:=by
 unfold Km;rw [bJ l k h,cZ];rfl
theorem aU7(l:List AT):Km l 0= []:=rfl
theorem Wl(l:List AT)(n:Nat):(Km l n).length<=n:=by simp [Km];omega
theorem aIu(l:List AT)(k n:Nat)(h:l.length<=k)(hn:k<=n):Km l k=Km l n:=by
 unfold Km;rw [bZ h,bZ (qB h hn)]
@[simp] abbrev q33_1:Cfg:=⟨[4,5,18,26],[],[],[],[]⟩
theorem aT5(l:Ls)(n:Nat)(σ:List (List D))(hl:l.length<=9223372036854775807)(hn:n<=1000000):Ct prog 169 [dl l,D.int n] σ (fun r σ'=>r= .sl true ((Fc l n).map D.str)/\σ'=σ):=by
 refine zf func169 ?_;refine zr q33_1 fun _ _ Z=>?_;simp(disch:=omega);apply Z;refine zr q33_1 fun _ _ Z=>?_;simp(disch:=omega);apply Z;apply aF;refine zr q33_1 fun _ _ Z=>?_;simp(disch:=omega);apply Z;apply aR;refine zk [0,1,4,5,6] ?_;refine bA (fun(k:Nat)=> [(6,.d (.int (k:Int))),(5,.d (.sl true ((Fc l k).map D.str)))]) [5,6,7,8,9,10,11,12,13,14,15,16,17,18,19,20,21,22,23,24,25] (fun(k:Nat)=>k<=l.length/\k<=n) (fun(k:Nat)=>l.length - k) (0) (by simp <;> rfl) ?_ ?_ ?_
 .simp [aS9]
 .simp
 rintro k ⟨hk,hn2⟩;simp only [aQ,aP];have hfl:=We l k;apply aF;refine iU q33_1 fun all hall _ Z=>?_;have ga4:aK all 4=some 11:=hall 4;refine zs 5 fun _ Y=>?_;simp(disch:=omega)[ga4];and_intros<;>(try omega);apply Y;refine zb 11 ?_ ?_<;>intro g1<;>try simp at g1
 .simp(disch:=omega)[ga4];apply Z;refine zI ?_ ?_<;>intro c2<;>try simp at c2
  .apply kB;refine zk [0,1,4,5,6] ?_;refine zt q33_1 fun _ _ Z=>?_;refine zs 5 fun _ Y=>?_;simp(disch:=omega);and_intros<;>(try omega);apply Y;refine aE fun _ Y=>?_;simp(disch:=omega);refine bS (Bm _ 20 _ (by omega)) ?_;apply Y;simp(disch:=omega);and_intros<;>(try omega);apply Z;apply zB;refine zk [0,1,4,5,6] ?_;refine zt q33_1 fun _ _ Z=>?_;simp(disch:=omega);and_intros<;>(try omega);apply Z;refine zq (k+1) ?_ ?_ ?_
   .omega
   .try dsimp only
    omega
   simp(disch:=omega)[aFz]
  apply zE;refine zk [4,5] ?_;refine zr q33_1 fun _ _ Z=>?_;simp(disch:=omega);apply Z;apply aD;simp [aJ];rw [show k=n by omega]
 simp(disch:=omega)[ga4];apply Z;refine aV (t:=false) (by simp) (fun h=>by cases h) (fun _=>?_);apply zE;refine zk [4,5] ?_;refine zr q33_1 fun _ _ Z=>?_;simp(disch:=omega);apply Z;apply aD;simp [aJ];rw [aIv l k n (by omega) (by omega)]
@[simp] abbrev q33_2:Cfg:=⟨[4,5,18,33],[],[],[],[]⟩
theorem aQ7(l:List PI)(n:Nat)(σ:List (List D))(hl:l.length<=9223372036854775807)(hn:n<=1000000):Ct prog 170 [.sl false (l.map cR),D.int n] σ (fun r σ'=>r= .sl true ((Fu l n).map cR)/\σ'=σ):=by
 refine zf func170 ?_;refine zr q33_2 fun _ _ Z=>?_;simp(disch:=omega);apply Z;refine zr q33_2 fun _ _ Z=>?_;simp(disch:=omega);apply Z;apply aF;refine zr q33_2 fun _ _ Z=>?_;simp(disch:=omega);apply Z;apply aR;refine zk [0,1,4,5,6] ?_;refine bA (fun(k:Nat)=> [(6,.d (.int (k:Int))),(5,.d (.sl true ((Fu l k).map cR)))]) [5,6,7,8,9,10,11,12,13,14,15,16,17,18,19,20,21,22,23,24,25,26,27,28,29,30,31,32] (fun(k:Nat)=>k<=l.length/\k<=n) (fun(k:Nat)=>l.length - k) (0) (by simp <;> rfl) ?_ ?_ ?_
 .simp [aT9]
 .simp
 rintro k ⟨hk,hn2⟩;simp only [aQ,aP];have hfl:=Vj l k;apply aF;refine iU q33_2 fun all hall _ Z=>?_;have ga4:aK all 4=some 11:=hall 4;refine zs 5 fun _ Y=>?_;simp(disch:=omega)[ga4];and_intros<;>(try omega);apply Y;refine zb 11 ?_ ?_<;>intro g1<;>try simp at g1
 .simp(disch:=omega)[ga4];apply Z;refine zI ?_ ?_<;>intro c2<;>try simp at c2
  .apply kB;refine zk [0,1,4,5,6] ?_;refine ze q33_2 [.op {},.op {},.op {},.op {},.op {},.op {},.pure,.op {},.op {},.op {},.op {},.op {},.op {},.op {},.op {},.op {}] fun all hall _ Z=>?_;refine lY 6 fun _ Y=>?_;simp(disch:=omega);and_intros<;>(try omega);apply Y;refine cF fun _ Y=>?_;simp(disch:=omega);refine Aa (fun _=>(Bm _ 20 _ (by omega))) ?_;apply Y;refine lY 8 fun _ Y=>?_;simp(disch:=omega);and_intros<;>(try omega);apply Y;simp(disch:=omega);apply Z;apply zB;refine zk [0,1,4,5,6] ?_;refine zt q33_2 fun _ _ Z=>?_;simp(disch:=omega);and_intros<;>(try omega);apply Z;refine zq (k+1) ?_ ?_ ?_
   .omega
   .try dsimp only
    omega
   simp(disch:=omega)[aG6]
  apply zE;refine zk [4,5] ?_;refine zr q33_2 fun _ _ Z=>?_;simp(disch:=omega);apply Z;apply aD;simp [aJ];rw [show k=n by omega]
 simp(disch:=omega)[ga4];apply Z;refine aV (t:=false) (by simp) (fun h=>by cases h) (fun _=>?_);apply zE;refine zk [4,5] ?_;refine zr q33_2 fun _ _ Z=>?_;simp(disch:=omega);apply Z;apply aD;simp [aJ];rw [aMb l k n (by omega) (by omega)]
def gG(f:FL):VN:=⟨f.kind,tY 20 f.tag,tY 20 f.key,tY 70 f.text,Fc f.classes 4,Km f.attrs 4,Fu f.styles 4,f.opts, []⟩
abbrev FO(f:FL):Prop:=f.classes.length<=9223372036854775807/\f.attrs.length<=9223372036854775807/\f.styles.length<=9223372036854775807
theorem aN0(f:FL)(σ:List (List D))(h:FO f):Ct prog 89 [Rk f] σ (fun r σ'=>r=kJ (gG f)/\∃J,σ'=σ++J):=by
 refine zf func89 ?_;have h5:=h.1;have h6:=h.2.1;have h7:=h.2.2;refine zr ⟨[37],[],[3],[],[]⟩ fun _ _ Z=>?_;simp(disch:=omega)[bI,aH,aW,aG];apply Z;refine zd ⟨[37],[],[3],[],[]⟩ [.op {},.op {rL:=true},.op {},.op {rL:=true},.pure,.op {},.op {rL:=true},.pure,.op {},.op {rL:=true},.pure,.op {},.op {rL:=true},.pure,.op {},.op {rL:=true},.pure,.op {},.op {rL:=true},.op {},.op {rO:=true,wO:=true},.op {rO:=true,wO:=true}] fun all hall _ Z=>?_;refine lY 4 fun _ Y=>?_;simp(disch:=omega)[bI,aH,aW,aG];apply Y;refine cF fun _ Y=>?_;simp(disch:=omega)[bI,aH,aW,aG];refine Aa (fun _=>(Bm f.tag 20 _ (by omega))) ?_;apply Y;refine lY 2 fun _ Y=>?_;simp(disch:=omega)[bI,aH,aW,aG];apply Y;refine cF fun _ Y=>?_;simp(disch:=omega)[bI,aH,aW,aG];refine Aa (fun _=>(Bm f.key 20 _ (by omega))) ?_;apply Y;refine lY 2 fun _ Y=>?_;simp(disch:=omega)[bI,aH,aW,aG];apply Y;refine cF fun _ Y=>?_;simp(disch:=omega)[bI,aH,aW,aG];refine Aa (fun _=>(Bm f.text 70 _ (by omega))) ?_;apply Y;refine lY 2 fun _ Y=>?_;simp(disch:=omega)[bI,aH,aW,aG];apply Y;refine cF fun _ Y=>?_;simp(disch:=omega)[bI,aH,aW,aG];refine Aa (fun _=>(aT5 f.classes 4 _ h5 (by omega))) ?_;apply Y;refine lY 2 fun _ Y=>?_;simp(disch:=omega)[bI,aH,aW,aG];apply Y;refine cF fun _ Y=>?_;simp(disch:=omega)[bI,aH,aW,aG];refine Aa (fun _=>(aQ7 f.styles 4 _ h7 (by omega))) ?_;apply Y;simp(disch:=omega)[bI,aH,aW,aG];and_intros<;>(try omega);apply Z;apply aF;refine zk [1,2,3] ?_;refine zr ⟨[37],[],[3],[],[]⟩ fun _ _ Z=>?_;simp(disch:=omega)[bI,aH,aW,aG];apply Z;apply aR;refine zk [1,2,3,4] ?_;refine kS (fun(k:Nat)=> [(4,.d (.v (.int .i64 (k:Int))))]) (fun(k:Nat)=> []) (fun(k:Nat)=> [(σ.length, [D.int f.kind,D.str (tY 20 f.tag),D.str (tY 20 f.key),D.str (tY 70 f.text),.sl false ((Fc f.classes 4).map D.str),.sl true ((Km f.attrs k).map cY),.sl false ((Fu f.styles 4).map cR),D.int f.opts.enter,D.int f.opts.leave,D.int f.opts.move,D.int f.opts.mode,D.bool f.opts.appear,D.bool f.opts.moves,.sl true []])]) [4,25,26,27,28,29,30,31,32,33,34,35,36,37,38,39,40,41,42,43,44,45,46,47,48,49,50,51,52,53,54,55] (fun(k:Nat)=>k<=f.attrs.length/\k<=4) (fun(k:Nat)=>f.attrs.length - k) (0) (by simp <;> rfl) ?_ (by simp) (by simp [aH,aU7]) ?_ ?_
 .simp
 .simp
 rintro k ⟨hk,hk4⟩;simp only [aQ,aP,lL,jP,gO,gA];have hfl:=Wl f.attrs k;apply aF;refine iU ⟨[37],[],[3],[],[]⟩ fun all hall _ Z=>?_;have ga5:aK all 5=some 30:=hall 5;refine zs 6 fun _ Y=>?_;simp(disch:=omega)[bI,aH,aW,aG,ga5];and_intros<;>(try omega);apply Y;refine zb 30 ?_ ?_<;>intro g1<;>try simp at g1
 .simp(disch:=omega)[bI,aH,aW,aG,ga5];apply Z;refine zI ?_ ?_<;>intro c2<;>try simp at c2
  .apply kB;refine zk [1,2,3,4] ?_;refine ze ⟨[37],[],[3],[],[]⟩ [.op {},.op {rO:=true,wO:=true},.op {},.op {rL:=true},.op {},.op {},.op {},.op {},.pure,.op {},.op {rL:=true},.op {},.op {},.op {},.op {},.pure,.op {},.op {},.op {},.op {},.op {rO:=true,wO:=true}] fun all hall _ Z=>?_;refine lY 8 fun _ Y=>?_;simp(disch:=omega)[bI,aH,aW,aG];and_intros<;>(try omega);apply Y;refine cF fun _ Y=>?_;simp(disch:=omega)[bI,aH,aW,aG];refine Aa (fun _=>(Bm f.attrs[k].name 20 _ (by omega))) ?_;apply Y;refine lY 6 fun _ Y=>?_;simp(disch:=omega)[bI,aH,aW,aG];and_intros<;>(try omega);apply Y;refine cF fun _ Y=>?_;simp(disch:=omega)[bI,aH,aW,aG];refine Aa (fun _=>(Bm f.attrs[k].value 40 _ (by omega))) ?_;apply Y;simp(disch:=omega)[bI,aH,aW,aG];and_intros<;>(try omega);apply Z;apply zB;refine zk [1,2,3,4] ?_;refine zt ⟨[37],[],[3],[],[]⟩ fun _ _ Z=>?_;simp(disch:=omega)[bI,aH,aW,aG];and_intros<;>(try omega);apply Z;refine eG (k+1) ?_ ?_ (dT rfl ?_ (by simp) (by simp [aF4,aH, *]))
   .omega
   .try dsimp only
    omega
   simp(disch:=omega)[bI,aH,aW,aG]
  apply zE;refine zk [2,3] ?_;refine zr ⟨[37],[],[3],[],[]⟩ fun _ _ Z=>?_;simp(disch:=omega)[bI,aH,aW,aG];apply Z;apply aD;simp [aJ,gG];rw [show k=4 by omega]
 simp(disch:=omega)[bI,aH,aW,aG,ga5];apply Z;refine aV (t:=false) (by simp) (fun h=>by cases h) (fun _=>?_);apply zE;refine zk [2,3] ?_;refine zr ⟨[37],[],[3],[],[]⟩ fun _ _ Z=>?_;simp(disch:=omega)[bI,aH,aW,aG];apply Z;apply aD;simp [aJ,gG];rw [aIu f.attrs k 4 (by omega) (by omega)]
theorem Sf(N:Nat)(x:ByteArray):Sc N (D.str x):=Sc.v _
theorem Rp(N:Nat)(x:AT):Sc N (cY x):=Sc.agg fun d hd=>by
 simp at hd;rcases hd with rfl | rfl <;> exact Sc.v _
theorem Sb(N:Nat)(x:PI):Sc N (cR x):=Sc.agg fun d hd=>by
 simp at hd;rcases hd with rfl | rfl <;> exact Sc.v _
theorem aOi(N:Nat)(f:FL):Sc N (kJ (gG f)):=Sc.agg fun d hd=>by
 simp only [bQ,gS,gW] at hd;rcases hd with rfl | rfl | rfl | rfl | rfl | rfl | rfl | rfl | rfl | rfl | rfl | rfl | rfl | rfl <;> first
  | exact Sc.v _
  | exact Sc.sl (Sc.map fun a=>Sf _ a)
  | exact Sc.sl (Sc.map fun a=>Rp _ a)
  | exact Sc.sl (Sc.map fun a=>Sb _ a)
  | exact Sc.sl fun d hd=>by cases hd
theorem aQ8(f:FL)(σ:List (List D))(h:FO f):Ct prog 89 [Rk f] σ (fun r σ'=>r=kJ (gG f)/\σ'=σ):=
 (aN0 f σ h).trim fun r σ' ⟨hr,J,hs⟩=>⟨σ,J,hs,rfl,by rw [hr];exact aOi _ _,fun n cs h=> .inl h,hr,rfl⟩
def dL(v:VN):Nat:=1+(v.kids.attach.map fun k=>dL k.1).sum
termination_by SizeOf.sizeOf v
decreasing_by
 have h:=pA k.2;cases v;simp at h |-;omega
theorem kA(v:VN):dL v=1+(v.kids.map dL).sum:=by rw [dL];simp
abbrev VF(v:VN):Prop:=v.classes.length<=4/\v.attrs.length<=4/\v.styles.length<=4/\v.text.size<=70/\v.tag.size<=20/\v.key.size<=20/\(∀s∈v.classes,s.size<=20)/\(∀p∈v.attrs,p.name.size<=20/\p.value.size<=40)/\∀p∈v.styles,p.name.size<=20
inductive VG:VN->Prop
 | mk (v:VN) (h:VF v) (hk:∀k∈v.kids,VG k):VG v
theorem aJ4(f:FL)(vs:List VN):VF { gG f with kids:=vs } :=by
 refine⟨We _ _,Wl _ _,Vj _ _,tE _ _,tE _ _,tE _ _,fun s hs=>?_,fun p hp=>?_,fun p hp=>?_⟩
 .obtain⟨x, -,rfl⟩:=aX.1 hs;exact tE _ _
 .obtain⟨x, -,rfl⟩:=aX.1 hp;exact⟨tE _ _,tE _ _⟩
 obtain⟨x, -,rfl⟩:=aX.1 hp;exact tE _ _
def cV(v:VN):List D:= [D.int v.kind,D.str v.tag,D.str v.key,D.str v.text,.sl false (v.classes.map D.str),.sl false (v.attrs.map cY),.sl false (v.styles.map cR),D.int v.opts.enter,D.int v.opts.leave,D.int v.opts.move,D.int v.opts.mode,D.bool v.opts.appear,D.bool v.opts.moves,.sl false (v.kids.map pF)]
theorem aX2(v:VN):(pF v).cells=cV v:=by rw [Rs];rfl
theorem qO(l:List VN):(l.map pF).flatMap D.cells=l.flatMap cV:=cW aX2 l
theorem xL(l:List VN):∀d∈l.map pF,d.ncells=14/\d.arr=true:=by
 intro d hd;obtain⟨a,_,rfl⟩:=aX.1 hd;rw [Rs];exact⟨rfl,rfl⟩
@[simp high] theorem Nq(l:List VN):(l.flatMap cV).length=l.length * 14:=dK (f:=cV) (fun _=>rfl) l
theorem aR7(l:List VN)(rest:List D)(i j:Nat)(h:i<l.length)(hj:j<14):(l.flatMap cV++rest)[i * 14+j]?=(cV l[i])[j]?:=Qn (f:=cV) (k:=14) (fun _=>rfl) l rest i j h hj
def txt(v:VN)(s:ByteArray):VN:= { v with text:=s }
theorem aWo(l:List VN)(rest:List D)(i:Nat)(s:ByteArray)(h:i<l.length):(l.flatMap cV++rest).set (i * 14+3) (D.str s)=(l.set i (txt l[i] s)).flatMap cV++rest:=by
 have hp:=pR (f:=cV) (k:=14) (fun _=>rfl) l i h;rw [tL (f:=cV) l i h,tL (f:=cV) (l.set i (txt l[i] s)) i (by simpa using h),List.take_set_of_le (aY _),List.drop_set_of_lt (by omega),List.getElem_set_self];rw [bV,bV,bV,bV,<- hp,nO _ _ (by omega)];congr 1;rw [oE];rfl
def jT(k:VN):Bool:= !(decide (k.kind=1) && decide (k.text=⟨#[]⟩))
def oG(out:List VN)(k:VN):List VN:=match out.getLast? with
 | some p=>if p.kind=1/\k.kind=1 then out.set (out.length - 1) (txt p (p.text++k.text))else out++ [k]
 | none=>out++ [k]
def gY(l:List VN):List VN:=l.foldl oG []
theorem xX(l:List VN)(k:VN):gY (l++ [k])=oG (gY l) k:=by unfold gY;rw [jO];rfl
theorem Qg(o:List VN)(k:VN):(oG o k).length<=o.length+1:=by
 unfold oG;split
 .split <;> simp
 simp
theorem oV {o:List VN} {k:VN} (h:∀h:0<o.length,¬(o[o.length - 1].kind=1/\k.kind=1)):oG o k=o++ [k]:=by
 unfold oG;split
 .rename_i p hp;rw [Gz] at hp;obtain⟨h1,h2⟩:=aO.1 hp;rw [aA];rw [<- h2];exact h (by omega)
 rfl
theorem Bx {o:List VN} {k:VN} (h:0<o.length)(h1:o[o.length - 1].kind=1)(h2:k.kind=1):oG o k=o.set (o.length - 1) (txt o[o.length - 1] (o[o.length - 1].text++k.text)):=by
 unfold oG;rw [Gz,aU (by omega)];simp only [h1,h2,and_self,aT]
def cC(v:VN):VN:= { v with classes:=bP v.classes,attrs:=iB nA v.attrs,styles:=iB nP v.styles,kids:=gY ((v.kids.attach.map fun k=>cC k.1).filter jT) }
termination_by SizeOf.sizeOf v
decreasing_by
 have h:=pA k.2;cases v;simp at h |-;omega
theorem kU(v:VN):cC v= { v with classes:=bP v.classes,attrs:=iB nA v.attrs,styles:=iB nP v.styles,kids:=gY ((v.kids.map cC).filter jT) } :=by
 rw [cC];simp
theorem tH(v:VN):(cC v).kind=v.kind:=by rw [kU]
theorem vW(v:VN):(cC v).text=v.text:=by rw [kU]
theorem aDc(v:VN):jT (cC v)=jT v:=by unfold jT;rw [tH,vW]
theorem Pc {B C:Nat} {o:List VN} {k:VN} (ho:∀x∈o,x.text.size<=B)(hk:k.text.size<=C):∀x∈oG o k,x.text.size<=B+C:=by
 intro x hx;unfold oG at hx;have hq:∀y,y∈o++ [k]->y.text.size<=B+C:=fun y hy=>by
  rcases bN.1 hy with h | h
  .have:=ho y h;omega
  rw [fG.1 h];omega
 split at hx
 .rename_i p hp;split at hx
  .rcases Ow hx with h | h
   .have:=ho x h;omega
   rw [h];have hm:p∈o:=List.mem_of_getLast? hp;have:=ho p hm;simp only [txt,ByteArray.size_append];omega
  exact hq x hx
 exact hq x hx
def Mm(v:VN)(j:Nat):List VN:=gY (((v.kids.take j).map cC).filter jT)
theorem aKn(v:VN):Mm v 0= []:=rfl
theorem Iu(v:VN):∀j,(Mm v j).length<=j
 | 0=>by simp [aKn]
 | j + 1 => by
  by_cases h:j<v.kids.length
  .unfold Mm;rw [bJ _ _ h,cZ,fZ,cM,lO];by_cases hk:jT (cC v.kids[j])=true
   .rw [qD hk,lM,xX];have:=Qg (gY (((v.kids.take j).map cC).filter jT)) (cC v.kids[j]);have:=Iu v j;unfold Mm at this;omega
   rw [sO hk,lM,gN];have:=Iu v j;unfold Mm at this;omega
  have h1:=Iu v j;unfold Mm at h1 |-;rw [bZ (by omega)] at h1 |-;omega
theorem Wt {v:VN} (h:j<v.kids.length)(hk:jT (cC v.kids[j])=false):Mm v (j+1)=Mm v j:=by
 unfold Mm;rw [bJ _ _ h,cZ,fZ,cM,lO,sO (by simp [hk]),lM,gN]
theorem wY {v:VN} (h:j<v.kids.length)(hk:jT (cC v.kids[j])=true):Mm v (j+1)=oG (Mm v j) (cC v.kids[j]):=by
 unfold Mm;rw [bJ _ _ h,cZ,fZ,cM,lO,qD hk,lM,xX]
theorem aC9 {v:VN} {B:Nat} (h:∀k∈v.kids,k.text.size<=B):∀j,j<=v.kids.length->∀k∈Mm v j,k.text.size<=j * B
 | 0,_=>fun k hk=>by rw [aKn] at hk;cases hk
 | j + 1, hj => fun k hk => by
  have ih:=aC9 h j (by omega);have eB:(j+1) * B=j * B+B:=uQ j B;rw [eB];cases e:jT (cC v.kids[j])with
  | false=>rw [Wt (by omega) e] at hk;have:=ih k hk;omega
  | true=>
   rw [wY (by omega) e] at hk;exact Pc ih (by rw [vW];exact h _ (cJ _)) k hk
theorem aPv(v:VN):Mm v v.kids.length=(cC v).kids:=by rw [kU];unfold Mm;rw [dX]
theorem aBx(l:List PI)(σ:List (List D))(hl:l.length<=999999):Ct prog 108 [.sl false (l.map cR)] σ (fun r σ'=>r= .sl false ((iB nP l).map cR)/\σ'=σ):=(Hc l σ hl).freeze fun r σ' h=>h
theorem aC1(l:List AT)(σ:List (List D))(hl:l.length<=999999):Ct prog 107 [.sl false (l.map cY)] σ (fun r σ'=>r= .sl false ((iB nA l).map cY)/\σ'=σ):=(Fy l σ hl).freeze fun r σ' h=>h
theorem iW(σ:List (List D))(k:Nat)(c:List D):(σ++(List.replicate k []++ [c]))[σ.length+k]?=some c:=by
 rw [bW (by omega),bW (by simp)];simp
theorem bD(σ:List (List D))(k:Nat)(c x:List D):(σ++(List.replicate k []++ [c])).set (σ.length+k) x=σ++(List.replicate k []++ [x]):=by
 rw [nO _ _ (by omega),nO _ _ (by simp)];simp
theorem pM(k:Nat):List.replicate k ([]:List D)++ [[]]=List.replicate (k+1) []:=(List.replicate_succ' ..).symm
abbrev VSz(v:VN):Prop:=v.classes.length<=9999/\v.attrs.length<=9999/\v.styles.length<=9999/\v.kids.length<=9999/\∀k∈v.kids,k.text.size<=9999
abbrev aRv(v:VN):Prop:=∀σ:List (List D),Ct prog 50 [kJ v] σ (fun r σ'=>r=kJ (cC v)/\σ'=σ)
theorem aWn(ks:List VN)(rest:List D)(h:0<ks.length):(∀h',(ks.flatMap cV++rest)[(ks.length - 1) * 14]'h'=D.int ks[ks.length - 1].kind)/\∀h',(ks.flatMap cV++rest)[(ks.length - 1) * 14+3]'h'=D.str ks[ks.length - 1].text:=by
 refine⟨fun h'=>?_,fun h'=>?_⟩
 .have:=aR7 ks rest (ks.length - 1) 0 (by omega) (by decide);rw [kM,aU h'] at this;simpa [cV] using this
 have:=aR7 ks rest (ks.length - 1) 3 (by omega) (by decide);rw [aU h'] at this;simpa [cV] using this
theorem aXw(ks:List VN)(rest:List D)(h:0<ks.length)(s:ByteArray):List.take ((ks.length - 1) * 14+3) (ks.flatMap cV++rest)++D.str s::List.drop ((ks.length - 1) * 14+3+1) (ks.flatMap cV++rest)=(ks.set (ks.length - 1) (txt ks[ks.length - 1] s)).flatMap cV++rest:=by
 rw [<- aWo ks rest (ks.length - 1) s (by omega),Np,aI];rw [bB,Nq];omega
@[simp] abbrev q33_3:Cfg:=⟨[3,31],[],[],[29,55,62,68,34],[]⟩
theorem aHl (v : VN) (σ : List (List D)) (h : VSz v) (ih : ∀ k ∈ v.kids, aRv k) : Ct prog 50 [kJ v] σ (fun r σ' => (r.plain = true /\ r.strip = kJ (cC v)) /\ ∃ J, σ' = σ ++ J) := by
 refine zf func50 ?_;obtain⟨h1,h2,h3,h4,h5⟩:=h;refine zr q33_3 fun _ _ Z=>?_;simp(disch:=omega)[iW,bD];apply Z;refine zd q33_3 [.op {},.op {rL:=true},.pure,.op {},.op {rL:=true},.pure,.op {},.op {rL:=true},.pure,.op {},.op {rL:=true,wL:=true},.op {},.op {rL:=true,wL:=true},.op {},.op {rL:=true,wL:=true}] fun all hall _ Z=>?_;refine lY 2 fun _ Y=>?_;simp(disch:=omega)[iW,bD];apply Y;refine cF fun _ Y=>?_;simp(disch:=omega)[iW,bD];refine Aa (fun _=>(Cy v.classes _ (by omega))) ?_;apply Y;refine lY 2 fun _ Y=>?_;simp(disch:=omega)[iW,bD];apply Y;refine cF fun _ Y=>?_;simp(disch:=omega)[iW,bD];refine Aa (fun _=>(aC1 v.attrs _ (by omega))) ?_;apply Y;refine lY 2 fun _ Y=>?_;simp(disch:=omega)[iW,bD];apply Y;refine cF fun _ Y=>?_;simp(disch:=omega)[iW,bD];refine Aa (fun _=>(aBx v.styles _ (by omega))) ?_;apply Y;simp(disch:=omega)[iW,bD];apply Z;refine zk [1,2] ?_;refine zr q33_3 fun _ _ Z=>?_;simp(disch:=omega)[iW,bD];apply Z;apply aF;refine zr q33_3 fun _ _ Z=>?_;simp(disch:=omega)[iW,bD];and_intros<;>(try omega);apply Z;apply aR;refine zk [1,2,3,20,21,22] ?_;refine Dt 3 14 (by simp <;> rfl) ?_;refine oW (fun(j:Nat)=> [(22,.d (.v (.int .i64 (j:Int)))),(3,.d (.xs 14 ((Mm v j).map pF))),(6,.d (.any))]) (fun(j:Nat)=> [[D.int v.kind,D.str v.tag,D.str v.key,D.str v.text,.sl true ((bP v.classes).map D.str),.sl false ((iB nA v.attrs).map cY),.sl false ((iB nP v.styles).map cR),D.int v.opts.enter,D.int v.opts.leave,D.int v.opts.move,D.int v.opts.mode,D.bool v.opts.appear,D.bool v.opts.moves,.sl false (v.kids.map pF)], [D.int 0,D.str ⟨#[]⟩,D.str ⟨#[]⟩,D.str ⟨#[]⟩,.sl true [],.sl true [],.sl true [],D.int 0,D.int 0,D.int 0,D.int 0,D.bool false,D.bool false,.sl true []]]) (fun(j:Nat)=>σ++List.replicate j []) [3,5,6,22,23,24,25,26,27,28,29,30,31,32,33,34,35,36,37,38,39,40,41,42,43,44,45,46,47,48,49,50,51,52,53,54,55,56,57,58,59,60,61,62,63,64,65,66,67,68,69,70] (fun(j:Nat)=>j<=v.kids.length) (fun(j:Nat)=>v.kids.length - j) (0) (by simp <;> rfl) ?_ (by simp) (by simp) ?_ ?_
 .simp [aKn]
 .simp
 rintro j hj;simp only [aQ,aP];have hnl:=Iu v j;obtain⟨ks,hks⟩:∃ks,Mm v j=ks:=⟨_,rfl⟩;rw [hks] at hnl |-;refine iQ 3 14 (by simp <;> rfl) (by decide) fun cap rest hcap hcm hrest hk0 hes=>?_;simp only [bU] at hcap hrest |-;rw [qO];have hrl:rest.length=(cap - ks.length) * 14:=by rw [hrest,cS]
 clear hrest;have hdl:ks.length * 14+rest.length=cap * 14:=by omega
 have hdl2:(ks.flatMap cV++rest).length=cap * 14:=by rw [bB,Nq];exact hdl
 simp only [bB,cS,bV];refine zr q33_3 fun _ _ Z=>?_;simp(disch:=omega)[iW,bD];apply Z;apply aF;refine zI ?_ ?_<;>intro c1<;>try simp at c1
 .apply kB;refine zr q33_3 fun _ _ Z=>?_;simp (disch:=omega)[iW,bD];and_intros<;>(try omega);apply Z;refine zr q33_3 fun _ _ Z=>?_;refine zs 1 fun _ Y=>?_;simp (disch:=omega)[iW,bD];apply Y;refine aE fun _ Y=>?_;simp (disch:=omega)[iW,bD];refine bS (ih v.kids[j] (cJ _) _) ?_;obtain ⟨q, hq⟩ : ∃ q, cC v.kids[j] = q := ⟨_, rfl⟩;rw [hq];apply Y;simp (disch:=omega)[iW,bD];apply Z;refine zk [1,2,3,5,6,20,21,22] ?_;refine zr q33_3 fun _ _ Z=>?_;simp (disch:=omega)[iW,bD];and_intros<;>(try omega);apply Z;apply aR;refine zk [1,2,3,5,6,20,21,22] ?_;refine iU q33_3 fun all hall _ Z=>?_;have ga3 : aK all 3 = some 39 := hall 3;refine zs 4 fun _ Y=>?_;simp (disch:=omega)[iW,bD,ga3];apply Y;refine zb 39 ?_ ?_<;>intro g2<;>try simp at g2
  .simp (disch:=omega)[iW,bD,ga3];apply Z;refine zI ?_ ?_<;>intro c3<;>try simp at c3
   .have hnx:Mm v (j+1)=ks:=by rw [Wt c1 (by rw [hq];simp [jT,g2,c3]),hks]
    refine fK 3 14 (σ.length+j) ks.length cap ((ks).map pF) ((ks).flatMap cV++rest) (by simp <;> rfl) (by simp [iW]) (by decide) (by simp only [bB,Nq,cH];omega) (by simp) (xL _) (by rw [qO];exact dB _ _) ?_;apply wZ;apply mP;apply zB;refine zk [1,2,3,6,20,21,22] ?_;refine zt q33_3 fun _ _ Z=>?_;simp(disch:=omega)[iW,bD];and_intros<;>(try omega);apply Z;refine eG (j+1) ?_ ?_ (dT rfl ?_ (by simp) (by simp [pM]))
    .omega
    .try dsimp only
     omega
    simp(disch:=omega)[iW,bD,hnx]
   refine zk [1,2,3,5,6,20,21,22] ?_;refine iU q33_3 fun all hall _ Z=>?_;have ga3:aK all 3=some 48:=hall 3;have ga7:aK all 7=some 52:=hall 7;refine zs 4 fun _ Y=>?_;simp(disch:=omega)[iW,bD,ga3,ga7];apply Y;refine zb 48 ?_ ?_<;>intro g4<;>try simp at g4
   .refine zs 4 fun _ Y=>?_;simp(disch:=omega)[iW,bD,ga3,ga7];apply Y;refine zb 52 ?_ ?_<;>intro g5<;>try simp at g5
    .have hkp:jT q=true:=by simp [jT,c3]
     have hk1:0<ks.length:=by omega
     obtain⟨hr0,hr3⟩:=aWn ks rest hk1;simp(disch:=omega)[iW,bD,ga3,ga7,hr0,hr3];and_intros<;>(try omega);apply Z;refine zI ?_ ?_<;>intro c6<;>try simp at c6
     .have hnx:Mm v (j+1)=ks.set (ks.length - 1) (txt ks[ks.length - 1] (ks[ks.length - 1].text++q.text)):=by rw [wY c1 (by rw [hq];exact hkp),hks,hq,Bx hk1 c6 g2]
      have hsz:ks[ks.length - 1].text.size+q.text.size<=9223372036854775807:=by
        have ha:=aC9 h5 j (by omega);rw [hks] at ha;have hj9:j * 9999<=9999 * 9999:=gB _ (by omega);have ha:=ha _ (cJ (by omega:ks.length - 1<ks.length));have hb:=h5 v.kids[j] (cJ _);rw [<- vW,hq] at hb;omega
      have hwr:=aXw ks rest hk1 (ks[ks.length - 1].text++q.text);refine zk [1,2,3,5,6,20,21,22] ?_;refine ze q33_3 [.op {},.op {},.op {},.op {},.op {rO:=true},.op {},.op {rL:=true},.op {},.op {},.op {},.op {rO:=true,wO:=true}] fun all hall _ Z=>?_;refine lY 8 fun _ Y=>?_;simp(disch:=omega)[iW,bD,hr0,hr3,hwr];and_intros<;>(try omega);apply Y;simp(disch:=omega)[iW,bD,hr0,hr3,hwr];and_intros<;>(try omega);apply Z;apply mP;apply zB;refine fK 3 14 (σ.length+j) ks.length cap ((ks.set (ks.length - 1) (txt ks[ks.length - 1] (ks[ks.length - 1].text++q.text))).map pF) ((ks.set (ks.length - 1) (txt ks[ks.length - 1] (ks[ks.length - 1].text++q.text))).flatMap cV++rest) (by simp <;> rfl) (by simp [iW]) (by decide) (by simp only [bB,Nq,cH];omega) (by simp) (xL _) (by rw [qO];exact dB _ _) ?_;refine zk [1,2,3,6,20,21,22] ?_;refine zt q33_3 fun _ _ Z=>?_;simp(disch:=omega)[iW,bD,hr0,hr3,hwr];and_intros<;>(try omega);apply Z;refine eG (j+1) ?_ ?_ (dT rfl ?_ (by simp) (by simp [pM]))
      .omega
      .try dsimp only
       omega
      simp(disch:=omega)[iW,bD,hnx,hr0,hr3,hwr]
     have hnx:Mm v (j+1)=ks++ [q]:=by rw [wY c1 (by rw [hq];exact hkp),hks,hq,oV fun _ h=>c6 h.1]
     refine zk [1,2,3,5,6,20,21,22] ?_;refine zt q33_3 fun _ _ Z=>?_;refine zs 4 fun _ Y=>?_;simp(disch:=omega)[iW,bD];refine⟨by first | rfl | exact⟨rfl,rfl⟩ | trivial,_,ks.map pF,⟨rfl,hdl2,by simp,xL ks,by rw [qO];exact dB _ _,by simp;omega,by simp [maxLen];omega⟩,?_⟩;and_intros<;>(try omega);apply Y;simp(disch:=omega)[iW,bD];apply Z;apply mP;apply zB;refine zk [1,2,3,6,20,21,22] ?_;refine zt q33_3 fun _ _ Z=>?_;simp(disch:=omega)[iW,bD];and_intros<;>(try omega);apply Z;refine eG (j+1) ?_ ?_ (dT rfl ?_ (by simp) (by simp [pM]))
     .omega
     .try dsimp only
      omega
     simp(disch:=omega)[iW,bD,hnx]
    have hkp:jT q=true:=by simp [jT,c3]
    have hnx:Mm v (j+1)=ks++ [q]:=by rw [wY c1 (by rw [hq];exact hkp),hks,hq,oV fun h _=>absurd h (by omega)]
    simp(disch:=omega)[iW,bD,ga3,ga7];apply Z;refine aV (t:=false) (by simp) (fun h=>by cases h) (fun _=>?_);refine zk [1,2,3,5,6,20,21,22] ?_;refine zt q33_3 fun _ _ Z=>?_;refine zs 4 fun _ Y=>?_;simp(disch:=omega)[iW,bD];refine⟨by first | rfl | exact⟨rfl,rfl⟩ | trivial,_,ks.map pF,⟨rfl,hdl2,by simp,xL ks,by rw [qO];exact dB _ _,by simp;omega,by simp [maxLen];omega⟩,?_⟩;and_intros<;>(try omega);apply Y;simp(disch:=omega)[iW,bD];apply Z;apply mP;apply zB;refine zk [1,2,3,6,20,21,22] ?_;refine zt q33_3 fun _ _ Z=>?_;simp(disch:=omega)[iW,bD];and_intros<;>(try omega);apply Z;refine eG (j+1) ?_ ?_ (dT rfl ?_ (by simp) (by simp [pM]))
    .omega
    .try dsimp only
     omega
    simp(disch:=omega)[iW,bD,hnx]
   exact absurd g2 g4
  have hnx:Mm v (j+1)=ks++ [q]:=by rw [wY c1 (by rw [hq];simp [jT,g2]),hks,hq,oV fun _ h=>g2 h.2]
  simp(disch:=omega)[iW,bD,ga3];apply Z;refine aV (t:=false) (by simp) (fun h=>by cases h) (fun _=>?_);refine zk [1,2,3,5,6,20,21,22] ?_;refine iU q33_3 fun all hall _ Z=>?_;have ga3:aK all 3=some 48:=hall 3;have ga7:aK all 7=some 52:=hall 7;refine zs 4 fun _ Y=>?_;simp(disch:=omega)[iW,bD,ga3,ga7];apply Y;refine zb 48 ?_ ?_<;>intro g7<;>try simp at g7
  .exact absurd g7 g2
  refine zs 4 fun _ Y=>?_;simp(disch:=omega)[iW,bD,ga3,ga7];apply Y;simp(disch:=omega)[iW,bD,ga3,ga7];apply Z;refine aV (t:=false) (by simp) (fun h=>by cases h) (fun _=>?_);refine zk [1,2,3,5,6,20,21,22] ?_;refine zt q33_3 fun _ _ Z=>?_;refine zs 4 fun _ Y=>?_;simp(disch:=omega)[iW,bD];refine⟨by first | rfl | exact⟨rfl,rfl⟩ | trivial,_,ks.map pF,⟨rfl,hdl2,by simp,xL ks,by rw [qO];exact dB _ _,by simp;omega,by simp [maxLen];omega⟩,?_⟩;and_intros<;>(try omega);apply Y;simp(disch:=omega)[iW,bD];apply Z;apply mP;apply zB;refine zk [1,2,3,6,20,21,22] ?_;refine zt q33_3 fun _ _ Z=>?_;simp(disch:=omega)[iW,bD];and_intros<;>(try omega);apply Z;refine eG (j+1) ?_ ?_ (dT rfl ?_ (by simp) (by simp [pM]))
  .omega
  .try dsimp only
   omega
  simp(disch:=omega)[iW,bD,hnx]
 obtain rfl:j=v.kids.length:=by omega
 apply zE;refine zr q33_3 fun _ _ Z=>?_;simp(disch:=omega)[iW,bD];apply Z;refine Hy 0 13 (σ.length+v.kids.length) ks.length cap 14 _ _ (ks.map pF) rfl rfl (by simp [iW]) (by decide) hdl2 (by simp) (xL _) (by rw [qO];exact dB _ _) ?_;simp only [gA,gO];refine zr q33_3 fun _ _ Z=>?_;simp(disch:=omega)[iW,bD];apply Z;apply aD;simp [aJ];rw [kU,<- hks,aPv,kU];simp
theorem aBs(N:Nat)(v:VN):Sc N (kJ v):=Sc.agg fun d hd=>by
 simp only [bQ,gS,gW] at hd;rcases hd with rfl | rfl | rfl | rfl | rfl | rfl | rfl | rfl | rfl | rfl | rfl | rfl | rfl | rfl
 .exact Sc.v _
 .exact Sc.v _
 .exact Sc.v _
 .exact Sc.v _
 .exact Sc.sl (Sc.map fun a=>Sf _ a)
 .exact Sc.sl (Sc.map fun a=>Rp _ a)
 .exact Sc.sl (Sc.map fun a=>Sb _ a)
 .exact Sc.v _
 .exact Sc.v _
 .exact Sc.v _
 .exact Sc.v _
 .exact Sc.v _
 .exact Sc.v _
 refine Sc.sl fun d hd=>?_;obtain⟨k,hk,e⟩:=aX.1 hd;rw [<- e,Rs];exact aBs N k
termination_by SizeOf.sizeOf v
decreasing_by
 have h:=pA hk;cases v;simp at h |-;omega
theorem fY {v k:VN} (h:k∈v.kids):dL k+1<=dL v:=by
 rw [kA v];have:∀l:List VN,k∈l->dL k<=(l.map dL).sum:=by
  intro l;induction l with
  | nil=>intro h;cases h
  | cons a l ih=>
   intro h;simp only [cM,kQ];rcases bQ.1 h with rfl | h
   .omega
   have:=ih h;omega
 have:=this v.kids h;omega
theorem pV(v:VN):v.kids.length+1<=dL v:=by
 rw [kA v];have:∀l:List VN,l.length<=(l.map dL).sum:=by
  intro l;induction l with
  | nil=>simp
  | cons a l ih=>
   have:=kA a;simp only [cM,kQ,bR];omega
 have:=this v.kids;omega
theorem VG.f {v:VN} (h:VG v):VF v:=by cases h;assumption
theorem VG.k {v:VN} (h:VG v):∀k∈v.kids,VG k:=by cases h;assumption
theorem VG.sz {v:VN} (h:VG v)(hc:dL v<=9999):VSz v:=by
 obtain⟨a,b,c,d, -⟩:=h.f;have:=pV v;exact⟨by omega,by omega,by omega,by omega,fun k hk=>by have:=(h.k k hk).f.2.2.2.1;omega⟩
theorem aCe(v:VN)(h:VG v)(hc:dL v<=9999):aRv v:=fun σ=>
 have h1:Ct prog 50 [kJ v] σ (fun r σ'=>r=kJ (cC v)/\∃J,σ'=σ++J):=(aHl v σ (h.sz hc) fun k hk=>aCe k (h.k k hk) (by have:=fY hk;omega)).strip fun r σ' h=>⟨h.1.1,h.1.2,h.2⟩
 h1.trim fun r σ' ⟨hr,J,hs⟩=>⟨σ,J,hs,rfl,by rw [hr];exact aBs _ _,fun n cs h=> .inl h,hr,rfl⟩
termination_by dL v
decreasing_by
 have:=fY hk;omega
@[simp] abbrev q33_4:Cfg:=⟨[6,8,41,45],[],[],[],[]⟩
theorem aIi(l:List FL)(d:Int)(σ:List (List D))(hl:l.length<=1000):Ct prog 90 [.sl false (l.map Rk),D.int l.length,D.int d] σ (fun r σ'=>r= .tup [.sl true [],D.int l.length]/\σ'=σ):=by
 refine zf func90 ?_;refine zr q33_4 fun _ _ Z=>?_;simp;apply Z;refine zr q33_4 fun _ _ Z=>?_;simp;apply Z;apply Tt;refine zk [0,1,2,6,7,8] ?_;refine bA (fun(u:Unit)=> [(8,.d (.sl true [])),(1,.d (.int (l.length:Int))),(9,.d (.any))]) [1,8,9,10,11,12,13,14,15,16,17,18,19,20,21,22,23,24,25,26,27,28,29,30,31,32,33,34,35,36,37,38,39,40,41,42,43,44] (fun(u:Unit)=>True) (fun(u:Unit)=>0) (()) (by simp <;> rfl) ?_ ?_ ?_
 .simp
 .trivial
 rintro u hu;simp only [aQ,aP];apply aF;refine zk [0,1,2,6,7,8,9] ?_;refine iU q33_4 fun all hall _ Z=>?_;have ga4:aK all 4=some 14:=hall 4;refine zs 5 fun _ Y=>?_;simp[ga4];and_intros<;>(try omega);apply Y;refine zb 14 ?_ ?_<;>intro g1<;>try simp at g1
 simp[ga4];apply Z;refine aV (t:=false) (by simp) (fun h=>by cases h) (fun _=>?_);apply zE;refine zk [1,6,7,8] ?_;refine zr q33_4 fun _ _ Z=>?_;simp;apply Z;apply aD;simp [aJ]
theorem aF8(f:FL)(σ:List (List D))(h:FO f):Ct prog 27 [.sl false [Rk f],D.int 1] σ (fun r σ'=>(r.plain=true/\r.strip=kJ (gG f))/\σ'=σ):=by
 refine zf func27 ?_;refine aZ fun _ _ Z=>?_;simp;apply Z;apply aF;refine aZ fun _ _ Z=>?_;simp;and_intros<;>(try omega);apply Z;refine zI ?_ ?_<;>intro c1<;>try simp at c1
 apply zA;apply aF;refine aZ fun _ _ Z=>?_;simp;and_intros<;>(try omega);apply Z;refine zI ?_ ?_<;>intro c2<;>try simp at c2
 apply zA;refine aZ fun _ _ Z=>?_;refine zs 3 fun _ Y=>?_;simp;and_intros<;>(try omega);apply Y;refine aE fun _ Y=>?_;simp;refine bS (aQ8 f _ h) ?_;apply Y;simp;apply Z;refine zk [0,4,5] ?_;refine aZ fun _ _ Z=>?_;refine zs 5 fun _ Y=>?_;simp;and_intros<;>(try omega);apply Y;refine aE fun _ Y=>?_;simp;refine bS (aIi [f] f.deep _ (by simp)) ?_;apply Y;simp;apply Z;refine zk [4,5] ?_;refine aZ fun _ _ Z=>?_;simp;apply Z;apply aD;simp [aJ,gG]
theorem Xl(f:FL)(σ:List (List D))(h:FO f):Ct prog 27 [.sl false [Rk f],D.int 1] σ (fun r σ'=>r=kJ (gG f)/\σ'=σ):=
 (aF8 f σ h).strip fun r σ' h=>⟨h.1.1,h.1.2,h.2⟩
theorem Vv {β:Type} {n1:α->ByteArray} {n2:β->ByteArray} {f:α->β} (h:∀a,n2 (f a)=n1 a):∀(l:List α) (p:α),(eO n1 l p).map f=eO n2 (l.map f) (f p)
 | [],p=>rfl
 | q::l,p=>by
  simp only [eO,cM,h];split
  .rw [cM,Vv h l p]
  split <;> simp
theorem aOs {β:Type} {n1:α->ByteArray} {n2:β->ByteArray} {f:α->β} (h:∀a,n2 (f a)=n1 a)(l:List α):(iB n1 l).map f=iB n2 (l.map f):=by
 have:∀(l o:List α),(l.foldl (eO n1) o).map f=(l.map f).foldl (eO n2) (o.map f):=by
  intro l;induction l with
  | nil=>intro o;rfl
  | cons a l ih=>intro o;simp only [dO,cM];rw [ih,Vv h]
 exact this l []
def Ap(l:List AT)(k:Nat):List PI:=(List.range k).map fun i=>⟨(l.getD i ⟨⟨#[]⟩,⟨#[]⟩⟩).name,i⟩
def Qo(l:List AT)(p:PI):AT:=⟨p.name,(l.getD p.value.toNat ⟨⟨#[]⟩,⟨#[]⟩⟩).value⟩
theorem aFl(l:List AT) {k:Nat} (h:k<l.length):Ap l (k+1)=Ap l k++ [⟨l[k].name,k⟩]:=by
 unfold Ap;rw [uL,cZ];simp [List.getD,h]
theorem Me(l:List AT)(k:Nat):(Ap l k).length=k:=by simp [Ap]
theorem oC {nm:α->ByteArray} {l:List α} {x:α} (h:x∈iB nm l):x∈l:=by
 have:∀(l o:List α),x∈l.foldl (eO nm) o->x∈o\/x∈l:=by
  intro l;induction l with
  | nil=>intro o h;exact .inl h
  | cons a l ih =>
   intro o h;rcases ih _ h with h | h
   .rcases oL nm h with rfl | h
    .exact .inr fE
    exact .inl h
   exact .inr (gL _ h)
 rcases this l [] h with h | h
 .cases h
 exact h
theorem aQq {l:List AT} {S:List PI} (hS:iB nP (Ap l l.length)=S) (hj:j<S.length):∃i:Nat,∃h:i<l.length,S[j].value=(i:Int)/\Qo l S[j]=l[i]:=by
 have h0:S[j]∈Ap l l.length:=by
  have:=cJ hj;generalize S[j]=y at this |-;rw [<- hS] at this;exact oC this
 generalize S[j]=y at h0 |-;unfold Ap at h0;obtain⟨i,hi,e⟩:=aX.1 h0;have hi:=fS.1 hi;refine⟨i,hi,by rw [<- e],?_⟩;rw [<- e];simp [Qo,List.getD,hi]
def Rh(l:List AT)(S:List PI)(j:Nat):List AT:=(S.take j).map (Qo l)
theorem aIm(l:List AT)(S:List PI)(j:Nat):(Rh l S j).length<=j:=by unfold Rh;simp;omega
theorem aDo(l:List AT) {S:List PI} (h:j<S.length) {x:AT} (hx:Qo l S[j]=x):Rh l S (j+1)=Rh l S j++ [x]:=by
 unfold Rh;rw [bJ S j h,cZ,cM,lO,hx]
theorem aD0(l:List AT):(iB nP (Ap l l.length)).map (Qo l)=iB nA l:=by
 rw [aOs (n1:=nP) (n2:=nA) (fun _=>rfl)];congr 1;refine List.ext_getElem (by simp [Ap]) fun i h1 h2=>?_;simp [Ap,Qo,List.getD,h2]
@[simp] abbrev q33_5:Cfg:=⟨[2,3,6,17,33,42],[],[],[],[]⟩
theorem aGh(l:List AT)(σ:List (List D))(hl:l.length<=9999):Ct prog 97 [.sl false (l.map cY)] σ (fun r σ'=>r= .sl true ((iB nA l).map cY)/\σ'=σ):=by
 refine zf func97 ?_;refine zr q33_5 fun _ _ Z=>?_;simp(disch:=omega);apply Z;refine zr q33_5 fun _ _ Z=>?_;simp(disch:=omega);and_intros<;>(try omega);apply Z;apply aF;refine zr q33_5 fun _ _ Z=>?_;simp(disch:=omega);and_intros<;>(try omega);apply Z;apply aR;refine zk [0,2,3,10,11,12] ?_;refine bA (fun(k:Nat)=> [(12,.d (.v (.int .i64 (k:Int)))),(3,.d (.sl true ((Ap l k).map cR))),(4,.d (.any)),(5,.d (.any))]) [3,4,5,12,13,14,15,16,17,18,19,20,21,22,23,24] (fun(k:Nat)=>k<=l.length) (fun(k:Nat)=>l.length - k) (0) (by simp <;> rfl) ?_ ?_ ?_
 .simp [Ap]
 .simp
 rintro k hk;simp only [aQ,aP];have hnl:=Me l k;refine zr q33_5 fun _ _ Z=>?_;simp(disch:=omega);apply Z;apply aF;refine zI ?_ ?_<;>intro c1<;>try simp at c1
 .have hnx:=aFl l c1;apply kB;refine zr q33_5 fun _ _ Z=>?_;simp(disch:=omega);and_intros<;>(try omega);apply Z;refine zk [0,2,3,4,5,10,11,12] ?_;refine zt q33_5 fun _ _ Z=>?_;simp(disch:=omega);and_intros<;>(try omega);apply Z;apply zB;refine zk [0,2,3,4,5,10,11,12] ?_;refine zt q33_5 fun _ _ Z=>?_;simp(disch:=omega);and_intros<;>(try omega);apply Z;refine zq (k+1) ?_ ?_ ?_
  .omega
  .try dsimp only
   omega
  simp(disch:=omega)[hnx]
 obtain rfl:k=l.length:=by omega
 apply zE;refine zr q33_5 fun _ _ Z=>?_;simp(disch:=omega);and_intros<;>(try omega);apply Z;apply aF;refine zr q33_5 fun _ _ Z=>?_;refine zs 1 fun _ Y=>?_;simp(disch:=omega);apply Y;refine aE fun _ Y=>?_;simp(disch:=omega);refine bS (yE (Ap l l.length) _ (by rw [Me];omega)) ?_;obtain⟨S,hS⟩:∃S,iB nP (Ap l l.length)=S:=⟨_,rfl⟩;have hSl:S.length<=9999:=by rw [<- hS];have:=iC nP (Ap l l.length);rw [Me] at this;omega
 rw [hS];apply Y;simp(disch:=omega);and_intros<;>(try omega);apply Z;apply aR;refine zk [0,2,6,27,28,29] ?_;refine bA (fun(j:Nat)=> [(29,.d (.v (.int .i64 (j:Int)))),(6,.d (.sl true ((Rh l S j).map cY))),(8,.d (.any))]) [6,8,29,30,31,32,33,34,35,36,37,38,39,40,41] (fun(j:Nat)=>j<=S.length) (fun(j:Nat)=>S.length - j) (0) (by simp <;> rfl) ?_ ?_ ?_
 .simp [Rh]
 .simp
 rintro j hj;simp only [aQ,aP];have hsl:=aIm l S j;refine zr q33_5 fun _ _ Z=>?_;simp(disch:=omega);apply Z;apply aF;refine zI ?_ ?_<;>intro c2<;>try simp at c2
 .obtain⟨i,hil,hiv,hip⟩:=aQq hS c2;have hnx:=aDo l c2 hip;apply kB;refine zr q33_5 fun _ _ Z=>?_;simp(disch:=omega)[hiv];and_intros<;>(try omega);apply Z;refine zt q33_5 fun _ _ Z=>?_;refine zs 8 fun _ Y=>?_;simp(disch:=omega)[hiv];and_intros<;>(try omega);apply Y;simp(disch:=omega)[hiv];apply Z;apply zB;refine zk [0,2,6,8,27,28,29] ?_;refine zt q33_5 fun _ _ Z=>?_;simp(disch:=omega)[hiv];and_intros<;>(try omega);apply Z;refine zq (j+1) ?_ ?_ ?_
  .omega
  .try dsimp only
   omega
  simp(disch:=omega)[hnx,hiv]
 obtain rfl:j=S.length:=by omega
 have hall:Rh l S S.length=iB nA l:=by unfold Rh;rw [dX,<- hS];exact aD0 l
 apply zE;refine zr q33_5 fun _ _ Z=>?_;simp(disch:=omega);apply Z;apply aD;simp [aJ,hall]
end Go.Proofs.YtbgfljpnhhdkoaaGreat
