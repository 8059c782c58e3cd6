import Derived.Test.YtbgfljpnhhdkoaaGreatVmX15
set_option linter.all false
set_option maxRecDepth 20000
set_option maxHeartbeats 8000000
open Go.Proofs.Tryz
namespace Go.Proofs.YtbgfljpnhhdkoaaGreat
open Go Go.Vm
structure OPT where
 enter:Int
 leave:Int
 move:Int
 mode:Int
 appear:Bool
 moves:Bool
 deriving DecidableEq
@[simp] abbrev aVb(s:OPT):D:= .agg [.v (.int .i64 s.enter),.v (.int .i64 s.leave),.v (.int .i64 s.move),.v (.int .i64 s.mode),.v (.bool s.appear),.v (.bool s.moves)]
structure FL where
 deep:Int
 kind:Int
 tag:ByteArray
 key:ByteArray
 text:ByteArray
 classes:(List ByteArray)
 attrs:(List AT)
 styles:(List PI)
 opts:OPT
 deriving DecidableEq
@[simp] abbrev Ro(s:FL):D:= .agg [.v (.int .i64 s.deep),.v (.int .i64 s.kind),.v (.string s.tag),.v (.string s.key),.v (.string s.text),.sl false (s.classes.map D.str),.sl false (s.attrs.map cZ),.sl false (s.styles.map cL),.v (.int .i64 s.opts.enter),.v (.int .i64 s.opts.leave),.v (.int .i64 s.opts.move),.v (.int .i64 s.opts.mode),.v (.bool s.opts.appear),.v (.bool s.opts.moves)]
@[simp] abbrev aY1(s:FL):D:= .agg [.v (.int .i64 s.deep),.v (.int .i64 s.kind),.v (.string s.tag),.v (.string s.key),.v (.string s.text),.sl true (s.classes.map D.str),.sl true (s.attrs.map cZ),.sl true (s.styles.map cL),.v (.int .i64 s.opts.enter),.v (.int .i64 s.opts.leave),.v (.int .i64 s.opts.move),.v (.int .i64 s.opts.mode),.v (.bool s.opts.appear),.v (.bool s.opts.moves)]
structure VN where
 kind:Int
 tag:ByteArray
 key:ByteArray
 text:ByteArray
 classes:(List ByteArray)
 attrs:(List AT)
 styles:(List PI)
 opts:OPT
 kids:(List VN)
def rC(s:VN):D:= .agg [.v (.int .i64 s.kind),.v (.string s.tag),.v (.string s.key),.v (.string s.text),.sl false (s.classes.map D.str),.sl false (s.attrs.map cZ),.sl false (s.styles.map cL),.v (.int .i64 s.opts.enter),.v (.int .i64 s.opts.leave),.v (.int .i64 s.opts.move),.v (.int .i64 s.opts.mode),.v (.bool s.opts.appear),.v (.bool s.opts.moves),.sl false (s.kids.attach.map fun k=>rC k.1)]
termination_by SizeOf.sizeOf s
decreasing_by
 have h:=uI k.2;cases s;simp at h |-;omega
@[simp] abbrev lF(s:VN):D:= .agg [.v (.int .i64 s.kind),.v (.string s.tag),.v (.string s.key),.v (.string s.text),.sl false (s.classes.map D.str),.sl false (s.attrs.map cZ),.sl false (s.styles.map cL),.v (.int .i64 s.opts.enter),.v (.int .i64 s.opts.leave),.v (.int .i64 s.opts.move),.v (.int .i64 s.opts.mode),.v (.bool s.opts.appear),.v (.bool s.opts.moves),.sl false (s.kids.map rC)]
@[simp] abbrev aYu(s:VN):D:= .agg [.v (.int .i64 s.kind),.v (.string s.tag),.v (.string s.key),.v (.string s.text),.sl true (s.classes.map D.str),.sl true (s.attrs.map cZ),.sl true (s.styles.map cL),.v (.int .i64 s.opts.enter),.v (.int .i64 s.opts.leave),.v (.int .i64 s.opts.move),.v (.int .i64 s.opts.mode),.v (.bool s.opts.appear),.v (.bool s.opts.moves),.sl true (s.kids.map rC)]
@[simp] theorem Qb(s:VN):rC s=lF s:=by rw [rC];simp
def Ej(l:Ls)(n:Nat):Ls:=(l.take n).map (tH 20)
def aWc(p:PI):PI:=⟨tH 20 p.name,p.value⟩
def aXc(p:AT):AT:=⟨tH 20 p.name,tH 40 p.value⟩
def Dj(l:List PI)(n:Nat):List PI:=(l.take n).map aWc
def Ix(l:List AT)(n:Nat):List AT:=(l.take n).map aXc
theorem aDp(l:List ByteArray)(k:Nat)(h:k<l.length):Ej l (k+1)=Ej l k++ [tH 20 l[k]]:=by
 unfold Ej;rw [bR l k h,cO];rfl
theorem aQz(l:List ByteArray):Ej l 0= []:=rfl
theorem Tj(l:List ByteArray)(n:Nat):(Ej l n).length<=n:=by simp [Ej];omega
theorem aL0(l:List ByteArray)(k n:Nat)(h:l.length<=k)(hn:k<=n):Ej l k=Ej l n:=by
 unfold Ej;rw [bV h,bV (pO h hn)]
theorem aE1(l:List PI)(k:Nat)(h:k<l.length):Dj l (k+1)=Dj l k++ [⟨tH 20 l[k].name,l[k].value⟩]:=by
 unfold Dj;rw [bR l k h,cO];rfl
theorem aRn(l:List PI):Dj l 0= []:=rfl
theorem Ve(l:List PI)(n:Nat):(Dj l n).length<=n:=by simp [Dj];omega
theorem aLx(l:List PI)(k n:Nat)(h:l.length<=k)(hn:k<=n):Dj l k=Dj l n:=by
 unfold Dj;rw [bV h,bV (pO h hn)]
theorem aCo(l:List AT)(k:Nat)(h:k<l.length):Ix l (k+1)=Ix l k++ [⟨tH 20 l[k].name,tH 40 l[k].value⟩]:=by
 unfold Ix;rw [bR l k h,cO];rfl
theorem aQv(l:List AT):Ix l 0= []:=rfl
theorem Vt(l:List AT)(n:Nat):(Ix l n).length<=n:=by simp [Ix];omega
theorem aHw(l:List AT)(k n:Nat)(h:l.length<=k)(hn:k<=n):Ix l k=Ix l n:=by
 unfold Ix;rw [bV h,bV (pO h hn)]
@[simp] abbrev q33_1:Cfg:=⟨[4,5,18,26],[],[],[],[]⟩
theorem aTb(l:Ls)(n:Nat)(σ:List (List D))(hl:l.length<=9223372036854775807)(hn:n<=1000000):Ct prog 169 [dl l,D.int n] σ (fun r σ'=>r= .sl true ((Ej l n).map D.str)/\σ'=σ):=by
 refine zf func169 ?_;refine zr q33_1 fun _ _ Z=>?_;simp(disch:=omega);apply Z;refine zr q33_1 fun _ _ Z=>?_;simp(disch:=omega);apply Z;apply aE;refine zr q33_1 fun _ _ Z=>?_;simp(disch:=omega);apply Z;apply aR;refine zk [0,1,4,5,6] ?_;refine aY (fun(k:Nat)=> [(6,.d (.int (k:Int))),(5,.d (.sl true ((Ej l k).map D.str)))]) [5,6,7,8,9,10,11,12,13,14,15,16,17,18,19,20,21,22,23,24,25] (fun(k:Nat)=>k<=l.length/\k<=n) (fun(k:Nat)=>l.length - k) (0) (by simp <;> rfl) ?_ ?_ ?_
 .simp [aQz]
 .simp
 rintro k ⟨hk,hn2⟩;simp only [aQ,aP];have hfl:=Tj l k;apply aE;refine mE q33_1 fun all hall _ Z=>?_;have ga4:aO all 4=some 11:=hall 4;refine zs 5 fun _ Y=>?_;simp(disch:=omega)[ga4];and_intros<;>(try omega);apply Y;refine zb 11 ?_ ?_<;>intro g1<;>try simp at g1
 .simp(disch:=omega)[ga4];apply Z;refine zI ?_ ?_<;>intro c2<;>try simp at c2
  .apply kO;refine zk [0,1,4,5,6] ?_;refine zt q33_1 fun _ _ Z=>?_;refine zs 5 fun _ Y=>?_;simp(disch:=omega);and_intros<;>(try omega);apply Y;refine aF fun _ Y=>?_;simp(disch:=omega);refine cN (An _ 20 _ (by omega)) ?_;apply Y;simp(disch:=omega);and_intros<;>(try omega);apply Z;apply zB;refine zk [0,1,4,5,6] ?_;refine zt q33_1 fun _ _ Z=>?_;simp(disch:=omega);and_intros<;>(try omega);apply Z;refine zq (k+1) ?_ ?_ ?_
   .omega
   .try dsimp only
    omega
   simp(disch:=omega)[aDp]
  apply zE;refine zk [4,5] ?_;refine zr q33_1 fun _ _ Z=>?_;simp(disch:=omega);apply Z;apply aC;simp [aG];rw [show k=n by omega]
 simp(disch:=omega)[ga4];apply Z;refine aZ (t:=false) (by simp) (fun h=>by cases h) (fun _=>?_);apply zE;refine zk [4,5] ?_;refine zr q33_1 fun _ _ Z=>?_;simp(disch:=omega);apply Z;apply aC;simp [aG];rw [aL0 l k n (by omega) (by omega)]
@[simp] abbrev q33_2:Cfg:=⟨[4,5,18,33],[],[],[],[]⟩
theorem aM2(l:List PI)(n:Nat)(σ:List (List D))(hl:l.length<=9223372036854775807)(hn:n<=1000000):Ct prog 170 [.sl false (l.map cL),D.int n] σ (fun r σ'=>r= .sl true ((Dj l n).map cL)/\σ'=σ):=by
 refine zf func170 ?_;refine zr q33_2 fun _ _ Z=>?_;simp(disch:=omega);apply Z;refine zr q33_2 fun _ _ Z=>?_;simp(disch:=omega);apply Z;apply aE;refine zr q33_2 fun _ _ Z=>?_;simp(disch:=omega);apply Z;apply aR;refine zk [0,1,4,5,6] ?_;refine aY (fun(k:Nat)=> [(6,.d (.int (k:Int))),(5,.d (.sl true ((Dj l k).map cL)))]) [5,6,7,8,9,10,11,12,13,14,15,16,17,18,19,20,21,22,23,24,25,26,27,28,29,30,31,32] (fun(k:Nat)=>k<=l.length/\k<=n) (fun(k:Nat)=>l.length - k) (0) (by simp <;> rfl) ?_ ?_ ?_
 .simp [aRn]
 .simp
 rintro k ⟨hk,hn2⟩;simp only [aQ,aP];have hfl:=Ve l k;apply aE;refine mE q33_2 fun all hall _ Z=>?_;have ga4:aO all 4=some 11:=hall 4;refine zs 5 fun _ Y=>?_;simp(disch:=omega)[ga4];and_intros<;>(try omega);apply Y;refine zb 11 ?_ ?_<;>intro g1<;>try simp at g1
 .simp(disch:=omega)[ga4];apply Z;refine zI ?_ ?_<;>intro c2<;>try simp at c2
  .apply kO;refine zk [0,1,4,5,6] ?_;refine ze q33_2 [.op {},.op {},.op {},.op {},.op {},.op {},.pure,.op {},.op {},.op {},.op {},.op {},.op {},.op {},.op {},.op {}] fun all hall _ Z=>?_;refine nI 6 fun _ Y=>?_;simp(disch:=omega);and_intros<;>(try omega);apply Y;refine cH fun _ Y=>?_;simp(disch:=omega);refine At (fun _=>(An _ 20 _ (by omega))) ?_;apply Y;refine nI 8 fun _ Y=>?_;simp(disch:=omega);and_intros<;>(try omega);apply Y;simp(disch:=omega);apply Z;apply zB;refine zk [0,1,4,5,6] ?_;refine zt q33_2 fun _ _ Z=>?_;simp(disch:=omega);and_intros<;>(try omega);apply Z;refine zq (k+1) ?_ ?_ ?_
   .omega
   .try dsimp only
    omega
   simp(disch:=omega)[aE1]
  apply zE;refine zk [4,5] ?_;refine zr q33_2 fun _ _ Z=>?_;simp(disch:=omega);apply Z;apply aC;simp [aG];rw [show k=n by omega]
 simp(disch:=omega)[ga4];apply Z;refine aZ (t:=false) (by simp) (fun h=>by cases h) (fun _=>?_);apply zE;refine zk [4,5] ?_;refine zr q33_2 fun _ _ Z=>?_;simp(disch:=omega);apply Z;apply aC;simp [aG];rw [aLx l k n (by omega) (by omega)]
def vL(f:FL):VN:=⟨f.kind,tH 20 f.tag,tH 20 f.key,tH 70 f.text,Ej f.classes 4,Ix f.attrs 4,Dj f.styles 4,f.opts, []⟩
abbrev FO(f:FL):Prop:=f.classes.length<=9223372036854775807/\f.attrs.length<=9223372036854775807/\f.styles.length<=9223372036854775807
theorem aL5(f:FL)(σ:List (List D))(h:FO f):Ct prog 89 [Ro f] σ (fun r σ'=>r=lF (vL f)/\∃J,σ'=σ++J):=by
 refine zf func89 ?_;have h5:=h.1;have h6:=h.2.1;have h7:=h.2.2;refine zr ⟨[37],[],[3],[],[]⟩ fun _ _ Z=>?_;simp(disch:=omega)[bH,aK,aV,aH];apply Z;refine zd ⟨[37],[],[3],[],[]⟩ [.op {},.op {rL:=true},.op {},.op {rL:=true},.pure,.op {},.op {rL:=true},.pure,.op {},.op {rL:=true},.pure,.op {},.op {rL:=true},.pure,.op {},.op {rL:=true},.pure,.op {},.op {rL:=true},.op {},.op {rO:=true,wO:=true},.op {rO:=true,wO:=true}] fun all hall _ Z=>?_;refine nI 4 fun _ Y=>?_;simp(disch:=omega)[bH,aK,aV,aH];apply Y;refine cH fun _ Y=>?_;simp(disch:=omega)[bH,aK,aV,aH];refine At (fun _=>(An f.tag 20 _ (by omega))) ?_;apply Y;refine nI 2 fun _ Y=>?_;simp(disch:=omega)[bH,aK,aV,aH];apply Y;refine cH fun _ Y=>?_;simp(disch:=omega)[bH,aK,aV,aH];refine At (fun _=>(An f.key 20 _ (by omega))) ?_;apply Y;refine nI 2 fun _ Y=>?_;simp(disch:=omega)[bH,aK,aV,aH];apply Y;refine cH fun _ Y=>?_;simp(disch:=omega)[bH,aK,aV,aH];refine At (fun _=>(An f.text 70 _ (by omega))) ?_;apply Y;refine nI 2 fun _ Y=>?_;simp(disch:=omega)[bH,aK,aV,aH];apply Y;refine cH fun _ Y=>?_;simp(disch:=omega)[bH,aK,aV,aH];refine At (fun _=>(aTb f.classes 4 _ h5 (by omega))) ?_;apply Y;refine nI 2 fun _ Y=>?_;simp(disch:=omega)[bH,aK,aV,aH];apply Y;refine cH fun _ Y=>?_;simp(disch:=omega)[bH,aK,aV,aH];refine At (fun _=>(aM2 f.styles 4 _ h7 (by omega))) ?_;apply Y;simp(disch:=omega)[bH,aK,aV,aH];and_intros<;>(try omega);apply Z;apply aE;refine zk [1,2,3] ?_;refine zr ⟨[37],[],[3],[],[]⟩ fun _ _ Z=>?_;simp(disch:=omega)[bH,aK,aV,aH];apply Z;apply aR;refine zk [1,2,3,4] ?_;refine oB (fun(k:Nat)=> [(4,.d (.v (.int .i64 (k:Int))))]) (fun(k:Nat)=> []) (fun(k:Nat)=> [(σ.length, [D.int f.kind,D.str (tH 20 f.tag),D.str (tH 20 f.key),D.str (tH 70 f.text),.sl false ((Ej f.classes 4).map D.str),.sl true ((Ix f.attrs k).map cZ),.sl false ((Dj f.styles 4).map cL),D.int f.opts.enter,D.int f.opts.leave,D.int f.opts.move,D.int f.opts.mode,D.bool f.opts.appear,D.bool f.opts.moves,.sl true []])]) [4,25,26,27,28,29,30,31,32,33,34,35,36,37,38,39,40,41,42,43,44,45,46,47,48,49,50,51,52,53,54,55] (fun(k:Nat)=>k<=f.attrs.length/\k<=4) (fun(k:Nat)=>f.attrs.length - k) (0) (by simp <;> rfl) ?_ (by simp) (by simp [aK,aQv]) ?_ ?_
 .simp
 .simp
 rintro k ⟨hk,hk4⟩;simp only [aQ,aP,oU,mT,jE,iR];have hfl:=Vt f.attrs k;apply aE;refine mE ⟨[37],[],[3],[],[]⟩ fun all hall _ Z=>?_;have ga5:aO all 5=some 30:=hall 5;refine zs 6 fun _ Y=>?_;simp(disch:=omega)[bH,aK,aV,aH,ga5];and_intros<;>(try omega);apply Y;refine zb 30 ?_ ?_<;>intro g1<;>try simp at g1
 .simp(disch:=omega)[bH,aK,aV,aH,ga5];apply Z;refine zI ?_ ?_<;>intro c2<;>try simp at c2
  .apply kO;refine zk [1,2,3,4] ?_;refine ze ⟨[37],[],[3],[],[]⟩ [.op {},.op {rO:=true,wO:=true},.op {},.op {rL:=true},.op {},.op {},.op {},.op {},.pure,.op {},.op {rL:=true},.op {},.op {},.op {},.op {},.pure,.op {},.op {},.op {},.op {},.op {rO:=true,wO:=true}] fun all hall _ Z=>?_;refine nI 8 fun _ Y=>?_;simp(disch:=omega)[bH,aK,aV,aH];and_intros<;>(try omega);apply Y;refine cH fun _ Y=>?_;simp(disch:=omega)[bH,aK,aV,aH];refine At (fun _=>(An f.attrs[k].name 20 _ (by omega))) ?_;apply Y;refine nI 6 fun _ Y=>?_;simp(disch:=omega)[bH,aK,aV,aH];and_intros<;>(try omega);apply Y;refine cH fun _ Y=>?_;simp(disch:=omega)[bH,aK,aV,aH];refine At (fun _=>(An f.attrs[k].value 40 _ (by omega))) ?_;apply Y;simp(disch:=omega)[bH,aK,aV,aH];and_intros<;>(try omega);apply Z;apply zB;refine zk [1,2,3,4] ?_;refine zt ⟨[37],[],[3],[],[]⟩ fun _ _ Z=>?_;simp(disch:=omega)[bH,aK,aV,aH];and_intros<;>(try omega);apply Z;refine fP (k+1) ?_ ?_ (eG rfl ?_ (by simp) (by simp [aCo,aK, *]))
   .omega
   .try dsimp only
    omega
   simp(disch:=omega)[bH,aK,aV,aH]
  apply zE;refine zk [2,3] ?_;refine zr ⟨[37],[],[3],[],[]⟩ fun _ _ Z=>?_;simp(disch:=omega)[bH,aK,aV,aH];apply Z;apply aC;simp [aG,vL];rw [show k=4 by omega]
 simp(disch:=omega)[bH,aK,aV,aH,ga5];apply Z;refine aZ (t:=false) (by simp) (fun h=>by cases h) (fun _=>?_);apply zE;refine zk [2,3] ?_;refine zr ⟨[37],[],[3],[],[]⟩ fun _ _ Z=>?_;simp(disch:=omega)[bH,aK,aV,aH];apply Z;apply aC;simp [aG,vL];rw [aHw f.attrs k 4 (by omega) (by omega)]
theorem Xt(N:Nat)(x:ByteArray):Sc N (D.str x):=Sc.v _
theorem Zg(N:Nat)(x:AT):Sc N (cZ x):=Sc.agg fun d hd=>by
 simp at hd;rcases hd with rfl | rfl <;> exact Sc.v _
theorem Wq(N:Nat)(x:PI):Sc N (cL x):=Sc.agg fun d hd=>by
 simp at hd;rcases hd with rfl | rfl <;> exact Sc.v _
theorem aNa(N:Nat)(f:FL):Sc N (lF (vL f)):=Sc.agg fun d hd=>by
 simp only [bM,iD,iK] at hd;rcases hd with rfl | rfl | rfl | rfl | rfl | rfl | rfl | rfl | rfl | rfl | rfl | rfl | rfl | rfl <;> first
  | exact Sc.v _
  | exact Sc.sl (Sc.map fun a=>Xt _ a)
  | exact Sc.sl (Sc.map fun a=>Zg _ a)
  | exact Sc.sl (Sc.map fun a=>Wq _ a)
  | exact Sc.sl fun d hd=>by cases hd
theorem Pm(f:FL)(σ:List (List D))(h:FO f):Ct prog 89 [Ro f] σ (fun r σ'=>r=lF (vL f)/\σ'=σ):=
 (aL5 f σ h).trim fun r σ' ⟨hr,J,hs⟩=>⟨σ,J,hs,rfl,by rw [hr];exact aNa _ _,fun n cs h=> .inl h,hr,rfl⟩
def cT(v:VN):Nat:=1+(v.kids.attach.map fun k=>cT k.1).sum
termination_by SizeOf.sizeOf v
decreasing_by
 have h:=uI k.2;cases v;simp at h |-;omega
theorem jA(v:VN):cT v=1+(v.kids.map cT).sum:=by rw [cT];simp
abbrev VF(v:VN):Prop:=v.classes.length<=4/\v.attrs.length<=4/\v.styles.length<=4/\v.text.size<=70/\v.tag.size<=20/\v.key.size<=20/\(∀s∈v.classes,s.size<=20)/\(∀p∈v.attrs,p.name.size<=20/\p.value.size<=40)/\∀p∈v.styles,p.name.size<=20
inductive VG:VN->Prop
 | mk (v:VN) (h:VF v) (hk:∀k∈v.kids,VG k):VG v
theorem Tn(f:FL)(vs:List VN):VF { vL f with kids:=vs } :=by
 refine⟨Tj _ _,Vt _ _,Ve _ _,sL _ _,sL _ _,sL _ _,fun s hs=>?_,fun p hp=>?_,fun p hp=>?_⟩
 .obtain⟨x, -,rfl⟩:=aW.1 hs;exact sL _ _
 .obtain⟨x, -,rfl⟩:=aW.1 hp;exact⟨sL _ _,sL _ _⟩
 obtain⟨x, -,rfl⟩:=aW.1 hp;exact sL _ _
abbrev aQk(l:List FL)(i:Nat)(d:Int):Prop:=∀σ:List (List D),Ct prog 90 [.sl false (l.map Ro),D.int i,D.int d] σ (fun r σ'=>(∃(vs:List VN) (j:Nat),r= .tup [.sl false (vs.map rC),D.int j]/\i<=j/\j<=l.length/\(∀v∈vs,VG v)/\(vs.map cT).sum=j - i)/\σ'=σ)
theorem Tq(l:List FL)(i:Nat)(d:Int)(σ:List (List D))(hl:l.length<=25)(hf:∀f∈l,FO f)(hi:i<=l.length)(ih:∀(i2:Nat) (d2:Int),i<i2->i2<=l.length->aQk l i2 d2):Ct prog 90 [.sl false (l.map Ro),D.int i,D.int d] σ (fun r σ'=>(∃(vs:List VN) (j:Nat),r= .tup [.sl false (vs.map rC),D.int j]/\i<=j/\j<=l.length/\(∀v∈vs,VG v)/\(vs.map cT).sum=j - i)/\σ'=σ):=by
 refine zf func90 ?_;refine zr ⟨[8,41],[],[],[],[]⟩ fun _ _ Z=>?_;simp(disch:=omega);apply Z;refine zr ⟨[8,41],[],[],[],[]⟩ fun _ _ Z=>?_;simp(disch:=omega);apply Z;apply Ry;refine zk [0,1,2,6,7,8] ?_;refine aY (fun(p:List VN×Nat)=> [(8,.d (.sl true (p.1.map rC))),(1,.d (.v (.int .i64 (p.2:Int)))),(9,.d (.any))]) [1,8,9,10,11,12,13,14,15,16,17,18,19,20,21,22,23,24,25,26,27,28,29,30,31,32,33,34,35,36,37,38,39,40,41,42,43,44] (fun(p:List VN×Nat)=>i<=p.2/\p.2<=l.length/\(∀v∈p.1,VG v)/\(p.1.map cT).sum=p.2 - i/\p.1.length<=p.2 - i) (fun(p:List VN×Nat)=>l.length - p.2) (([],i)) (by simp <;> rfl) ?_ ?_ ?_
 .simp
 .simp;omega
 rintro⟨vs,k⟩ ⟨h1,h2,h3,h4,h5⟩;simp only [aQ,aP];dsimp only at h1 h2 h3 h4 h5;apply aE;refine zk [0,1,2,6,7,8,9] ?_;refine mE ⟨[8,41],[],[],[],[]⟩ fun all hall _ Z=>?_;have ga4:aO all 4=some 14:=hall 4;refine zs 5 fun _ Y=>?_;simp(disch:=omega)[ga4];and_intros<;>(try omega);apply Y;refine zb 14 ?_ ?_<;>intro g1<;>try simp at g1
 .simp(disch:=omega)[ga4];and_intros<;>(try omega);apply Z;refine zI ?_ ?_<;>intro c2<;>try simp at c2
  .apply zA;apply aR;refine zk [0,1,2,6,7,8,9] ?_;refine zr ⟨[8,41],[],[],[],[]⟩ fun _ _ Z=>?_;refine zs 4 fun _ Y=>?_;simp(disch:=omega);and_intros<;>(try omega);apply Y;refine aF fun _ Y=>?_;simp(disch:=omega);refine cN (Pm l[k] _ (hf _ (cB _))) ?_;apply Y;simp(disch:=omega);apply Z;refine zk [0,1,2,6,7,8,9] ?_;refine zr ⟨[8,41],[],[],[],[]⟩ fun _ _ Z=>?_;refine zs 8 fun _ Y=>?_;simp(disch:=omega);and_intros<;>(try omega);apply Y;refine aF fun _ Y=>?_;simp(disch:=omega);refine Ma (ih (k+1) l[k].deep (by omega) (by omega) _) ?_;rintro _ τ1 ⟨⟨ws,j,hr,hj1,hj2,hg,hs⟩,hτ⟩;subst hr hτ;apply Y;simp(disch:=omega);apply Z;refine zk [0,1,2,6,7,8,9] ?_;refine zt ⟨[8,41],[],[],[],[]⟩ fun _ _ Z=>?_;simp(disch:=omega);and_intros<;>(try omega);apply Z;apply kT;refine zq ((vs++ [{ vL l[k] with kids:=ws }],j)) ?_ ?_ ?_
   .refine⟨by omega,hj2,fun v hv=>?_,?_,?_⟩
    .rcases bN.1 hv with hv | hv
     .exact h3 v hv
     rw [fO.1 hv];exact .mk _ (Tn _ _) hg
    .simp only [cO,Fq,cK,kY,jG,List.sum_nil,jA { vL l[k] with kids:=ws }];omega
    simp;omega
   .try dsimp only
    omega
   simp(disch:=omega)
  apply zE;refine zk [1,6,7,8] ?_;refine zr ⟨[8,41],[],[],[],[]⟩ fun _ _ Z=>?_;simp(disch:=omega);apply Z;apply aC;simp [aG];exact⟨vs,k,⟨rfl,rfl⟩,h1,h2,h3,h4⟩
 simp(disch:=omega)[ga4];apply Z;refine aZ (t:=false) (by simp) (fun h=>by cases h) (fun _=>?_);apply zE;refine zk [1,6,7,8] ?_;refine zr ⟨[8,41],[],[],[],[]⟩ fun _ _ Z=>?_;simp(disch:=omega);apply Z;apply aC;simp [aG];exact⟨vs,k,⟨rfl,rfl⟩,h1,h2,h3,h4⟩
theorem Ih(l:List FL)(hl:l.length<=25)(hf:∀f∈l,FO f):∀(n i:Nat) (d:Int),l.length - i<=n->i<=l.length->aQk l i d
 | 0,i,d,hn,hi=>fun σ=>Tq l i d σ hl hf hi fun i2 d2 h1 h2=>absurd h2 (by omega)
 | n+1,i,d,hn,hi=>fun σ=>Tq l i d σ hl hf hi fun i2 d2 h1 h2=>Ih l hl hf n i2 d2 (by omega) h2
def Fv:VN:=⟨2,⟨#[112]⟩,⟨#[]⟩,⟨#[]⟩, [], [], [],⟨0,0,0,0,false,false⟩, []⟩
theorem aHg:VG Fv:= .mk _ ⟨by decide,by decide,by decide,by decide+kernel,by decide+kernel,by decide+kernel,(fun s h=>by cases h),(fun p h=>by cases h),(fun p h=>by cases h)⟩ fun k hk=>by cases hk
theorem aGg:cT Fv<=25:=by rw [jA];decide
theorem aQf(f:FL)(ws:List VN)(j:Nat)(hg:∀v∈ws,VG v)(hs:(ws.map cT).sum=j - 1)(hj:j<=25)(h1:1<=j):VG { vL f with kids:=ws } /\cT { vL f with kids:=ws } <=25:=by
 refine⟨.mk _ (Tn _ _) hg,?_⟩;rw [jA];simp only [];omega
theorem aJi(l:List FL)(n:Nat)(σ:List (List D))(hn:n<=25)(hl:l.length<=9223372036854775807)(hf:∀f∈l,FO f):Ct prog 27 [.sl false (l.map Ro),D.int n] σ (fun r σ'=>(r.plain=true/\∃v:VN,r.strip=lF v/\VG v/\cT v<=25)/\σ'=σ):=by
 refine zf func27 ?_;refine bC fun _ _ Z=>?_;simp(disch:=omega);apply Z;apply aE;refine bC fun _ _ Z=>?_;simp(disch:=omega);and_intros<;>(try omega);apply Z;refine zI ?_ ?_<;>intro c1<;>try simp at c1
 .refine qF fun _ _ Z=>?_;simp(disch:=omega);and_intros<;>(try omega);apply Z;apply dV;apply aE;rw [<- uG];obtain⟨L,hL⟩:∃L,L=l.take n:=⟨_,rfl⟩;rw [<- hL];have hLl:L.length<=25:=by rw [hL,bF];omega
  have hLf:∀f∈L,FO f:=by rw [hL];exact fun f hf2=>hf f (nE hf2)
  refine bC fun _ _ Z=>?_;simp(disch:=omega);and_intros<;>(try omega);apply Z;refine zI ?_ ?_<;>intro c2<;>try simp at c2
  .refine zk [0,4] ?_;refine bC fun _ _ Z=>?_;simp(disch:=omega);apply Z;apply aC;simp [aG];exact⟨Fv,by simp [Fv],aHg,aGg⟩
  apply zA;have hL0:0<L.length:=by
   rcases L with _ | ⟨a,b⟩
   .first | (simp at c2;done) | (simp at c3;done)
   simp
  refine zk [0,4] ?_;refine bC fun _ _ Z=>?_;refine zs 3 fun _ Y=>?_;simp(disch:=omega);and_intros<;>(try omega);apply Y;refine aF fun _ Y=>?_;simp(disch:=omega);refine cN (Pm L[0] _ (hLf _ (cB _))) ?_;apply Y;simp(disch:=omega);apply Z;refine bC fun _ _ Z=>?_;refine zs 5 fun _ Y=>?_;simp(disch:=omega);and_intros<;>(try omega);apply Y;refine aF fun _ Y=>?_;simp(disch:=omega);refine Ma (Ih L hLl hLf 25 1 L[0].deep (by omega) (by omega) _) ?_;rintro _ τ1 ⟨⟨ws,j,hr,hj1,hj2,hg,hs⟩,hτ⟩;subst hr hτ;apply Y;simp(disch:=omega);apply Z;refine zk [4,5] ?_;refine bC fun _ _ Z=>?_;simp(disch:=omega);apply Z;apply aC;simp [aG];exact⟨{ vL L[0] with kids:=ws },by simp,aQf _ ws j hg hs (by omega) (by omega)⟩
 apply zA;apply aE;obtain⟨L,hL⟩:∃L,L=l:=⟨_,rfl⟩;have hLl:L.length<=25:=by rw [hL];omega
 have hLf:∀f∈L,FO f:=by rw [hL];exact hf
 rw [<- hL];refine bC fun _ _ Z=>?_;simp(disch:=omega);and_intros<;>(try omega);apply Z;refine zI ?_ ?_<;>intro c3<;>try simp at c3
 .refine bC fun _ _ Z=>?_;simp(disch:=omega);apply Z;apply aC;simp [aG];exact⟨Fv,by simp [Fv],aHg,aGg⟩
 apply zA;have hL0:0<L.length:=by
  rcases L with _ | ⟨a,b⟩
  .first | (simp at c2;done) | (simp at c3;done)
  simp
 refine bC fun _ _ Z=>?_;refine zs 3 fun _ Y=>?_;simp(disch:=omega);and_intros<;>(try omega);apply Y;refine aF fun _ Y=>?_;simp(disch:=omega);refine cN (Pm L[0] _ (hLf _ (cB _))) ?_;apply Y;simp(disch:=omega);apply Z;refine zk [0,4,5] ?_;refine bC fun _ _ Z=>?_;refine zs 5 fun _ Y=>?_;simp(disch:=omega);and_intros<;>(try omega);apply Y;refine aF fun _ Y=>?_;simp(disch:=omega);refine Ma (Ih L hLl hLf 25 1 L[0].deep (by omega) (by omega) _) ?_;rintro _ τ1 ⟨⟨ws,j,hr,hj1,hj2,hg,hs⟩,hτ⟩;subst hr hτ;apply Y;simp(disch:=omega);apply Z;refine zk [4,5] ?_;refine bC fun _ _ Z=>?_;simp(disch:=omega);apply Z;apply aC;simp [aG];exact⟨{ vL L[0] with kids:=ws },by simp,aQf _ ws j hg hs (by omega) (by omega)⟩
theorem aOf(l:List FL)(n:Nat)(σ:List (List D))(hn:n<=25)(hl:l.length<=9223372036854775807)(hf:∀f∈l,FO f):Ct prog 27 [.sl false (l.map Ro),D.int n] σ (fun r σ'=>(∃v:VN,r=lF v/\VG v/\cT v<=25)/\σ'=σ):=
 (aJi l n σ hn hl hf).strip fun r σ' h=>⟨h.1.1,h.1.2,h.2⟩
def cV(v:VN):List D:= [D.int v.kind,D.str v.tag,D.str v.key,D.str v.text,.sl false (v.classes.map D.str),.sl false (v.attrs.map cZ),.sl false (v.styles.map cL),D.int v.opts.enter,D.int v.opts.leave,D.int v.opts.move,D.int v.opts.mode,D.bool v.opts.appear,D.bool v.opts.moves,.sl false (v.kids.map rC)]
theorem aU2(v:VN):(rC v).cells=cV v:=by rw [Qb];rfl
theorem Af(l:List VN):(l.map rC).flatMap D.cells=l.flatMap cV:=cQ aU2 l
theorem Mv(l:List VN):∀d∈l.map rC,d.ncells=14/\d.arr=true:=by
 intro d hd;obtain⟨a,_,rfl⟩:=aW.1 hd;rw [Qb];exact⟨rfl,rfl⟩
@[simp high] theorem aAc(l:List VN):(l.flatMap cV).length=l.length * 14:=dE (f:=cV) (fun _=>rfl) l
theorem aP8(l:List VN)(rest:List D)(i j:Nat)(h:i<l.length)(hj:j<14):(l.flatMap cV++rest)[i * 14+j]?=(cV l[i])[j]?:=My (f:=cV) (k:=14) (fun _=>rfl) l rest i j h hj
def txt(v:VN)(s:ByteArray):VN:= { v with text:=s }
theorem aUd(l:List VN)(rest:List D)(i:Nat)(s:ByteArray)(h:i<l.length):(l.flatMap cV++rest).set (i * 14+3) (D.str s)=(l.set i (txt l[i] s)).flatMap cV++rest:=by
 have hp:=oV (f:=cV) (k:=14) (fun _=>rfl) l i h;rw [sV (f:=cV) l i h,sV (f:=cV) (l.set i (txt l[i] s)) i (by simpa using h),List.take_set_of_le (aX _),List.drop_set_of_lt (by omega),List.getElem_set_self];rw [bU,bU,bU,bU,<- hp,nF _ _ (by omega)];congr 1;rw [mX];rfl
def oR(k:VN):Bool:= !(decide (k.kind=1) && decide (k.text=⟨#[]⟩))
def pA(out:List VN)(k:VN):List VN:=match out.getLast? with
 | some p=>if p.kind=1/\k.kind=1 then out.set (out.length - 1) (txt p (p.text++k.text))else out++ [k]
 | none=>out++ [k]
def pN(l:List VN):List VN:=l.foldl pA []
theorem Gp(l:List VN)(k:VN):pN (l++ [k])=pA (pN l) k:=by unfold pN;rw [jD];rfl
theorem aCj(o:List VN)(k:VN):(pA o k).length<=o.length+1:=by
 unfold pA;split
 .split <;> simp
 simp
theorem Dh {o:List VN} {k:VN} (h:∀h:0<o.length,¬(o[o.length - 1].kind=1/\k.kind=1)):pA o k=o++ [k]:=by
 unfold pA;split
 .rename_i p hp;rw [El] at hp;obtain⟨h1,h2⟩:=aN.1 hp;rw [aD];rw [<- h2];exact h (by omega)
 rfl
theorem Zi {o:List VN} {k:VN} (h:0<o.length)(h1:o[o.length - 1].kind=1)(h2:k.kind=1):pA o k=o.set (o.length - 1) (txt o[o.length - 1] (o[o.length - 1].text++k.text)):=by
 unfold pA;rw [El,aT (by omega)];simp only [h1,h2,and_self,aU]
def eI(v:VN):VN:= { v with classes:=bS v.classes,attrs:=iP nA v.attrs,styles:=iP nP v.styles,kids:=pN ((v.kids.attach.map fun k=>eI k.1).filter oR) }
termination_by SizeOf.sizeOf v
decreasing_by
 have h:=uI k.2;cases v;simp at h |-;omega
theorem nN(v:VN):eI v= { v with classes:=bS v.classes,attrs:=iP nA v.attrs,styles:=iP nP v.styles,kids:=pN ((v.kids.map eI).filter oR) } :=by
 rw [eI];simp
theorem Kj(v:VN):(eI v).kind=v.kind:=by rw [nN]
theorem Ir(v:VN):(eI v).text=v.text:=by rw [nN]
theorem aCb {B C:Nat} {o:List VN} {k:VN} (ho:∀x∈o,x.text.size<=B)(hk:k.text.size<=C):∀x∈pA o k,x.text.size<=B+C:=by
 intro x hx;unfold pA at hx;have hq:∀y,y∈o++ [k]->y.text.size<=B+C:=fun y hy=>by
  rcases bN.1 hy with h | h
  .have:=ho y h;omega
  rw [fO.1 h];omega
 split at hx
 .rename_i p hp;split at hx
  .rcases Nz hx with h | h
   .have:=ho x h;omega
   rw [h];have hm:p∈o:=List.mem_of_getLast? hp;have:=ho p hm;simp only [txt,ByteArray.size_append];omega
  exact hq x hx
 exact hq x hx
def Lf(v:VN)(j:Nat):List VN:=pN (((v.kids.take j).map eI).filter oR)
theorem aJp(v:VN):Lf v 0= []:=rfl
theorem Hn(v:VN):∀j,(Lf v j).length<=j
 | 0=>by simp [aJp]
 | j + 1 => by
  by_cases h:j<v.kids.length
  .unfold Lf;rw [bR _ _ h,cO,fS,cK,kY];by_cases hk:oR (eI v.kids[j])=true
   .rw [pU hk,nH,Gp];have:=aCj (pN (((v.kids.take j).map eI).filter oR)) (eI v.kids[j]);have:=Hn v j;unfold Lf at this;omega
   rw [rW hk,nH,gO];have:=Hn v j;unfold Lf at this;omega
  have h1:=Hn v j;unfold Lf at h1 |-;rw [bV (by omega)] at h1 |-;omega
theorem Vc {v:VN} {j:Nat} (h:j<v.kids.length)(hk:oR (eI v.kids[j])=false):Lf v (j+1)=Lf v j:=by
 unfold Lf;rw [bR _ _ h,cO,fS,cK,kY,rW (by simp [hk]),nH,gO]
theorem wM {v:VN} {j:Nat} (h:j<v.kids.length)(hk:oR (eI v.kids[j])=true):Lf v (j+1)=pA (Lf v j) (eI v.kids[j]):=by
 unfold Lf;rw [bR _ _ h,cO,fS,cK,kY,pU hk,nH,Gp]
theorem aAo {v:VN} {B:Nat} (h:∀k∈v.kids,k.text.size<=B):∀j,j<=v.kids.length->∀k∈Lf v j,k.text.size<=j * B
 | 0,_=>fun k hk=>by rw [aJp] at hk;cases hk
 | j + 1, hj => fun k hk => by
  have ih:=aAo h j (by omega);have eB:(j+1) * B=j * B+B:=xQ j B;rw [eB];cases e:oR (eI v.kids[j])with
  | false=>rw [Vc (by omega) e] at hk;have:=ih k hk;omega
  | true=>
   rw [wM (by omega) e] at hk;exact aCb ih (by rw [Ir];exact h _ (cB _)) k hk
theorem aOz(v:VN):Lf v v.kids.length=(eI v).kids:=by rw [nN];unfold Lf;rw [fJ]
theorem aA5(l:List PI)(σ:List (List D))(hl:l.length<=999999):Ct prog 108 [.sl false (l.map cL)] σ (fun r σ'=>r= .sl false ((iP nP l).map cL)/\σ'=σ):=(Ds l σ hl).freeze fun r σ' h=>h
theorem aBv(l:List AT)(σ:List (List D))(hl:l.length<=999999):Ct prog 107 [.sl false (l.map cZ)] σ (fun r σ'=>r= .sl false ((iP nA l).map cZ)/\σ'=σ):=(Dc l σ hl).freeze fun r σ' h=>h
theorem rG(σ:List (List D))(k:Nat)(c:List D):(σ++(List.replicate k []++ [c]))[σ.length+k]?=some c:=by
 rw [bT (by omega),bT (by simp)];simp
theorem dB(σ:List (List D))(k:Nat)(c x:List D):(σ++(List.replicate k []++ [c])).set (σ.length+k) x=σ++(List.replicate k []++ [x]):=by
 rw [nF _ _ (by omega),nF _ _ (by simp)];simp
theorem vZ(k:Nat):List.replicate k ([]:List D)++ [[]]=List.replicate (k+1) []:=(List.replicate_succ' ..).symm
abbrev VSz(v:VN):Prop:=v.classes.length<=9999/\v.attrs.length<=9999/\v.styles.length<=9999/\v.kids.length<=9999/\∀k∈v.kids,k.text.size<=9999
abbrev aQr(v:VN):Prop:=∀σ:List (List D),Ct prog 50 [lF v] σ (fun r σ'=>r=lF (eI v)/\σ'=σ)
theorem aW0(ks:List VN)(rest:List D)(h:0<ks.length):(∀h',(ks.flatMap cV++rest)[(ks.length - 1) * 14]'h'=D.int ks[ks.length - 1].kind)/\∀h',(ks.flatMap cV++rest)[(ks.length - 1) * 14+3]'h'=D.str ks[ks.length - 1].text:=by
 refine⟨fun h'=>?_,fun h'=>?_⟩
 .have:=aP8 ks rest (ks.length - 1) 0 (by omega) (by decide);rw [kA,aT h'] at this;simpa [cV] using this
 have:=aP8 ks rest (ks.length - 1) 3 (by omega) (by decide);rw [aT h'] at this;simpa [cV] using this
theorem aWp(ks:List VN)(rest:List D)(h:0<ks.length)(s:ByteArray):List.take ((ks.length - 1) * 14+3) (ks.flatMap cV++rest)++D.str s::List.drop ((ks.length - 1) * 14+3+1) (ks.flatMap cV++rest)=(ks.set (ks.length - 1) (txt ks[ks.length - 1] s)).flatMap cV++rest:=by
 rw [<- aUd ks rest (ks.length - 1) s (by omega),Nn,aJ];rw [bA,aAc];omega
@[simp] abbrev q33_3:Cfg:=⟨[3,31],[],[],[29,55,62,68,34],[]⟩
theorem aLu (v : VN) (σ : List (List D)) (h : VSz v) (ih : ∀ k ∈ v.kids, aQr k) : Ct prog 50 [lF v] σ (fun r σ' => (r.plain = true /\ r.strip = lF (eI v)) /\ ∃ J, σ' = σ ++ J) := by
 refine zf func50 ?_;obtain⟨h1,h2,h3,h4,h5⟩:=h;refine zr q33_3 fun _ _ Z=>?_;simp(disch:=omega)[rG,dB];apply Z;refine zd q33_3 [.op {},.op {rL:=true},.pure,.op {},.op {rL:=true},.pure,.op {},.op {rL:=true},.pure,.op {},.op {rL:=true,wL:=true},.op {},.op {rL:=true,wL:=true},.op {},.op {rL:=true,wL:=true}] fun all hall _ Z=>?_;refine nI 2 fun _ Y=>?_;simp(disch:=omega)[rG,dB];apply Y;refine cH fun _ Y=>?_;simp(disch:=omega)[rG,dB];refine At (fun _=>(Da v.classes _ (by omega))) ?_;apply Y;refine nI 2 fun _ Y=>?_;simp(disch:=omega)[rG,dB];apply Y;refine cH fun _ Y=>?_;simp(disch:=omega)[rG,dB];refine At (fun _=>(aBv v.attrs _ (by omega))) ?_;apply Y;refine nI 2 fun _ Y=>?_;simp(disch:=omega)[rG,dB];apply Y;refine cH fun _ Y=>?_;simp(disch:=omega)[rG,dB];refine At (fun _=>(aA5 v.styles _ (by omega))) ?_;apply Y;simp(disch:=omega)[rG,dB];apply Z;refine zk [1,2] ?_;refine zr q33_3 fun _ _ Z=>?_;simp(disch:=omega)[rG,dB];apply Z;apply aE;refine zr q33_3 fun _ _ Z=>?_;simp(disch:=omega)[rG,dB];and_intros<;>(try omega);apply Z;apply aR;refine zk [1,2,3,20,21,22] ?_;refine Ii 3 14 (by simp <;> rfl) ?_;refine oD (fun(j:Nat)=> [(22,.d (.v (.int .i64 (j:Int)))),(3,.d (.xs 14 ((Lf v j).map rC))),(6,.d (.any))]) (fun(j:Nat)=> [[D.int v.kind,D.str v.tag,D.str v.key,D.str v.text,.sl true ((bS v.classes).map D.str),.sl false ((iP nA v.attrs).map cZ),.sl false ((iP nP v.styles).map cL),D.int v.opts.enter,D.int v.opts.leave,D.int v.opts.move,D.int v.opts.mode,D.bool v.opts.appear,D.bool v.opts.moves,.sl false (v.kids.map rC)], [D.int 0,D.str ⟨#[]⟩,D.str ⟨#[]⟩,D.str ⟨#[]⟩,.sl true [],.sl true [],.sl true [],D.int 0,D.int 0,D.int 0,D.int 0,D.bool false,D.bool false,.sl true []]]) (fun(j:Nat)=>σ++List.replicate j []) [3,5,6,22,23,24,25,26,27,28,29,30,31,32,33,34,35,36,37,38,39,40,41,42,43,44,45,46,47,48,49,50,51,52,53,54,55,56,57,58,59,60,61,62,63,64,65,66,67,68,69,70] (fun(j:Nat)=>j<=v.kids.length) (fun(j:Nat)=>v.kids.length - j) (0) (by simp <;> rfl) ?_ (by simp) (by simp) ?_ ?_
 .simp [aJp]
 .simp
 rintro j hj;simp only [aQ,aP];have hnl:=Hn v j;obtain⟨ks,hks⟩:∃ks,Lf v j=ks:=⟨_,rfl⟩;rw [hks] at hnl |-;refine iU 3 14 (by simp <;> rfl) (by decide) fun cap rest hcap hcm hrest hk0 hes=>?_;simp only [bQ] at hcap hrest |-;rw [Af];have hrl:rest.length=(cap - ks.length) * 14:=by rw [hrest,cR]
 clear hrest;have hdl:ks.length * 14+rest.length=cap * 14:=by omega
 have hdl2:(ks.flatMap cV++rest).length=cap * 14:=by rw [bA,aAc];exact hdl
 simp only [bA,cR,bU];refine zr q33_3 fun _ _ Z=>?_;simp(disch:=omega)[rG,dB];apply Z;apply aE;refine zI ?_ ?_<;>intro c1<;>try simp at c1
 .apply kO;refine zr q33_3 fun _ _ Z=>?_;simp (disch:=omega)[rG,dB];and_intros<;>(try omega);apply Z;refine zr q33_3 fun _ _ Z=>?_;refine zs 1 fun _ Y=>?_;simp (disch:=omega)[rG,dB];apply Y;refine aF fun _ Y=>?_;simp (disch:=omega)[rG,dB];refine cN (ih v.kids[j] (cB _) _) ?_;obtain ⟨q, hq⟩ : ∃ q, eI v.kids[j] = q := ⟨_, rfl⟩;rw [hq];apply Y;simp (disch:=omega)[rG,dB];apply Z;refine zk [1,2,3,5,6,20,21,22] ?_;refine zr q33_3 fun _ _ Z=>?_;simp (disch:=omega)[rG,dB];and_intros<;>(try omega);apply Z;apply aR;refine zk [1,2,3,5,6,20,21,22] ?_;refine mE q33_3 fun all hall _ Z=>?_;have ga3 : aO all 3 = some 39 := hall 3;refine zs 4 fun _ Y=>?_;simp (disch:=omega)[rG,dB,ga3];apply Y;refine zb 39 ?_ ?_<;>intro g2<;>try simp at g2
  .simp (disch:=omega)[rG,dB,ga3];apply Z;refine zI ?_ ?_<;>intro c3<;>try simp at c3
   .have hnx:Lf v (j+1)=ks:=by rw [Vc c1 (by rw [hq];simp [oR,g2,c3]),hks]
    refine fL 3 14 (σ.length+j) ks.length cap ((ks).map rC) ((ks).flatMap cV++rest) (by simp <;> rfl) (by simp [rG]) (by decide) (by simp only [bA,aAc,cE];omega) (by simp) (Mv _) (by rw [Af];exact dL _ _) ?_;apply wG;apply kT;apply zB;refine zk [1,2,3,6,20,21,22] ?_;refine zt q33_3 fun _ _ Z=>?_;simp(disch:=omega)[rG,dB];and_intros<;>(try omega);apply Z;refine fP (j+1) ?_ ?_ (eG rfl ?_ (by simp) (by simp [vZ]))
    .omega
    .try dsimp only
     omega
    simp(disch:=omega)[rG,dB,hnx]
   refine zk [1,2,3,5,6,20,21,22] ?_;refine mE q33_3 fun all hall _ Z=>?_;have ga3:aO all 3=some 48:=hall 3;have ga7:aO all 7=some 52:=hall 7;refine zs 4 fun _ Y=>?_;simp(disch:=omega)[rG,dB,ga3,ga7];apply Y;refine zb 48 ?_ ?_<;>intro g4<;>try simp at g4
   .refine zs 4 fun _ Y=>?_;simp(disch:=omega)[rG,dB,ga3,ga7];apply Y;refine zb 52 ?_ ?_<;>intro g5<;>try simp at g5
    .have hkp:oR q=true:=by simp [oR,c3]
     have hk1:0<ks.length:=by omega
     obtain⟨hr0,hr3⟩:=aW0 ks rest hk1;simp(disch:=omega)[rG,dB,ga3,ga7,hr0,hr3];and_intros<;>(try omega);apply Z;refine zI ?_ ?_<;>intro c6<;>try simp at c6
     .have hnx:Lf v (j+1)=ks.set (ks.length - 1) (txt ks[ks.length - 1] (ks[ks.length - 1].text++q.text)):=by rw [wM c1 (by rw [hq];exact hkp),hks,hq,Zi hk1 c6 g2]
      have hsz:ks[ks.length - 1].text.size+q.text.size<=9223372036854775807:=by
        have ha:=aAo h5 j (by omega);rw [hks] at ha;have hj9:j * 9999<=9999 * 9999:=gB _ (by omega);have ha:=ha _ (cB (by omega:ks.length - 1<ks.length));have hb:=h5 v.kids[j] (cB _);rw [<- Ir,hq] at hb;omega
      have hwr:=aWp ks rest hk1 (ks[ks.length - 1].text++q.text);refine zk [1,2,3,5,6,20,21,22] ?_;refine ze q33_3 [.op {},.op {},.op {},.op {},.op {rO:=true},.op {},.op {rL:=true},.op {},.op {},.op {},.op {rO:=true,wO:=true}] fun all hall _ Z=>?_;refine nI 8 fun _ Y=>?_;simp(disch:=omega)[rG,dB,hr0,hr3,hwr];and_intros<;>(try omega);apply Y;simp(disch:=omega)[rG,dB,hr0,hr3,hwr];and_intros<;>(try omega);apply Z;apply kT;apply zB;refine fL 3 14 (σ.length+j) ks.length cap ((ks.set (ks.length - 1) (txt ks[ks.length - 1] (ks[ks.length - 1].text++q.text))).map rC) ((ks.set (ks.length - 1) (txt ks[ks.length - 1] (ks[ks.length - 1].text++q.text))).flatMap cV++rest) (by simp <;> rfl) (by simp [rG]) (by decide) (by simp only [bA,aAc,cE];omega) (by simp) (Mv _) (by rw [Af];exact dL _ _) ?_;refine zk [1,2,3,6,20,21,22] ?_;refine zt q33_3 fun _ _ Z=>?_;simp(disch:=omega)[rG,dB,hr0,hr3,hwr];and_intros<;>(try omega);apply Z;refine fP (j+1) ?_ ?_ (eG rfl ?_ (by simp) (by simp [vZ]))
      .omega
      .try dsimp only
       omega
      simp(disch:=omega)[rG,dB,hnx,hr0,hr3,hwr]
     have hnx:Lf v (j+1)=ks++ [q]:=by rw [wM c1 (by rw [hq];exact hkp),hks,hq,Dh fun _ h=>c6 h.1]
     refine zk [1,2,3,5,6,20,21,22] ?_;refine zt q33_3 fun _ _ Z=>?_;refine zs 4 fun _ Y=>?_;simp(disch:=omega)[rG,dB];refine⟨by first | rfl | exact⟨rfl,rfl⟩ | trivial,_,ks.map rC,⟨rfl,hdl2,by simp,Mv ks,by rw [Af];exact dL _ _,by simp;omega,by simp [maxLen];omega⟩,?_⟩;and_intros<;>(try omega);apply Y;simp(disch:=omega)[rG,dB];apply Z;apply kT;apply zB;refine zk [1,2,3,6,20,21,22] ?_;refine zt q33_3 fun _ _ Z=>?_;simp(disch:=omega)[rG,dB];and_intros<;>(try omega);apply Z;refine fP (j+1) ?_ ?_ (eG rfl ?_ (by simp) (by simp [vZ]))
     .omega
     .try dsimp only
      omega
     simp(disch:=omega)[rG,dB,hnx]
    have hkp:oR q=true:=by simp [oR,c3]
    have hnx:Lf v (j+1)=ks++ [q]:=by rw [wM c1 (by rw [hq];exact hkp),hks,hq,Dh fun h _=>absurd h (by omega)]
    simp(disch:=omega)[rG,dB,ga3,ga7];apply Z;refine aZ (t:=false) (by simp) (fun h=>by cases h) (fun _=>?_);refine zk [1,2,3,5,6,20,21,22] ?_;refine zt q33_3 fun _ _ Z=>?_;refine zs 4 fun _ Y=>?_;simp(disch:=omega)[rG,dB];refine⟨by first | rfl | exact⟨rfl,rfl⟩ | trivial,_,ks.map rC,⟨rfl,hdl2,by simp,Mv ks,by rw [Af];exact dL _ _,by simp;omega,by simp [maxLen];omega⟩,?_⟩;and_intros<;>(try omega);apply Y;simp(disch:=omega)[rG,dB];apply Z;apply kT;apply zB;refine zk [1,2,3,6,20,21,22] ?_;refine zt q33_3 fun _ _ Z=>?_;simp(disch:=omega)[rG,dB];and_intros<;>(try omega);apply Z;refine fP (j+1) ?_ ?_ (eG rfl ?_ (by simp) (by simp [vZ]))
    .omega
    .try dsimp only
     omega
    simp(disch:=omega)[rG,dB,hnx]
   exact absurd g2 g4
  have hnx:Lf v (j+1)=ks++ [q]:=by rw [wM c1 (by rw [hq];simp [oR,g2]),hks,hq,Dh fun _ h=>g2 h.2]
  simp(disch:=omega)[rG,dB,ga3];apply Z;refine aZ (t:=false) (by simp) (fun h=>by cases h) (fun _=>?_);refine zk [1,2,3,5,6,20,21,22] ?_;refine mE q33_3 fun all hall _ Z=>?_;have ga3:aO all 3=some 48:=hall 3;have ga7:aO all 7=some 52:=hall 7;refine zs 4 fun _ Y=>?_;simp(disch:=omega)[rG,dB,ga3,ga7];apply Y;refine zb 48 ?_ ?_<;>intro g7<;>try simp at g7
  .exact absurd g7 g2
  refine zs 4 fun _ Y=>?_;simp(disch:=omega)[rG,dB,ga3,ga7];apply Y;simp(disch:=omega)[rG,dB,ga3,ga7];apply Z;refine aZ (t:=false) (by simp) (fun h=>by cases h) (fun _=>?_);refine zk [1,2,3,5,6,20,21,22] ?_;refine zt q33_3 fun _ _ Z=>?_;refine zs 4 fun _ Y=>?_;simp(disch:=omega)[rG,dB];refine⟨by first | rfl | exact⟨rfl,rfl⟩ | trivial,_,ks.map rC,⟨rfl,hdl2,by simp,Mv ks,by rw [Af];exact dL _ _,by simp;omega,by simp [maxLen];omega⟩,?_⟩;and_intros<;>(try omega);apply Y;simp(disch:=omega)[rG,dB];apply Z;apply kT;apply zB;refine zk [1,2,3,6,20,21,22] ?_;refine zt q33_3 fun _ _ Z=>?_;simp(disch:=omega)[rG,dB];and_intros<;>(try omega);apply Z;refine fP (j+1) ?_ ?_ (eG rfl ?_ (by simp) (by simp [vZ]))
  .omega
  .try dsimp only
   omega
  simp(disch:=omega)[rG,dB,hnx]
 obtain rfl:j=v.kids.length:=by omega
 apply zE;refine zr q33_3 fun _ _ Z=>?_;simp(disch:=omega)[rG,dB];apply Z;refine Tx 0 13 (σ.length+v.kids.length) ks.length cap 14 _ _ (ks.map rC) rfl rfl (by simp [rG]) (by decide) hdl2 (by simp) (Mv _) (by rw [Af];exact dL _ _) ?_;simp only [iR,jE];refine zr q33_3 fun _ _ Z=>?_;simp(disch:=omega)[rG,dB];apply Z;apply aC;simp [aG];rw [nN,<- hks,aOz,nN];simp
theorem aMi(N:Nat)(v:VN):Sc N (lF v):=Sc.agg fun d hd=>by
 simp only [bM,iD,iK] at hd;rcases hd with rfl | rfl | rfl | rfl | rfl | rfl | rfl | rfl | rfl | rfl | rfl | rfl | rfl | rfl
 .exact Sc.v _
 .exact Sc.v _
 .exact Sc.v _
 .exact Sc.v _
 .exact Sc.sl (Sc.map fun a=>Xt _ a)
 .exact Sc.sl (Sc.map fun a=>Zg _ a)
 .exact Sc.sl (Sc.map fun a=>Wq _ a)
 .exact Sc.v _
 .exact Sc.v _
 .exact Sc.v _
 .exact Sc.v _
 .exact Sc.v _
 .exact Sc.v _
 refine Sc.sl fun d hd=>?_;obtain⟨k,hk,e⟩:=aW.1 hd;rw [<- e,Qb];exact aMi N k
termination_by SizeOf.sizeOf v
decreasing_by
 have h:=uI hk;cases v;simp at h |-;omega
theorem fV {v k:VN} (h:k∈v.kids):cT k+1<=cT v:=by
 rw [jA v];have:∀l:List VN,k∈l->cT k<=(l.map cT).sum:=by
  intro l;induction l with
  | nil=>intro h;cases h
  | cons a l ih=>
   intro h;simp only [cK,jG];rcases bM.1 h with rfl | h
   .omega
   have:=ih h;omega
 have:=this v.kids h;omega
theorem lK(v:VN):v.kids.length+1<=cT v:=by
 rw [jA v];have:∀l:List VN,l.length<=(l.map cT).sum:=by
  intro l;induction l with
  | nil=>simp
  | cons a l ih=>
   have:=jA a;simp only [cK,jG,bO];omega
 have:=this v.kids;omega
theorem VG.f {v:VN} (h:VG v):VF v:=by cases h;assumption
theorem VG.k {v:VN} (h:VG v):∀k∈v.kids,VG k:=by cases h;assumption
theorem VG.sz {v:VN} (h:VG v)(hc:cT v<=9999):VSz v:=by
 obtain⟨a,b,c,d, -⟩:=h.f;have:=lK v;exact⟨by omega,by omega,by omega,by omega,fun k hk=>by have:=(h.k k hk).f.2.2.2.1;omega⟩
theorem aAl(v:VN)(h:VG v)(hc:cT v<=9999):aQr v:=fun σ=>
 have h1:Ct prog 50 [lF v] σ (fun r σ'=>r=lF (eI v)/\∃J,σ'=σ++J):=(aLu v σ (h.sz hc) fun k hk=>aAl k (h.k k hk) (by have:=fV hk;omega)).strip fun r σ' h=>⟨h.1.1,h.1.2,h.2⟩
 h1.trim fun r σ' ⟨hr,J,hs⟩=>⟨σ,J,hs,rfl,by rw [hr];exact aMi _ _,fun n cs h=> .inl h,hr,rfl⟩
termination_by cT v
decreasing_by
 have:=fV hk;omega
theorem Hl {α:Type} {nm:α->ByteArray} {l:List α} {x:α} (h:x∈iP nm l):x∈l:=by
 have:∀(l o:List α),x∈l.foldl (fU nm) o->x∈o\/x∈l:=by
  intro l;induction l with
  | nil=>intro o h;exact .inl h
  | cons a l ih =>
   intro o h;rcases ih _ h with h | h
   .rcases Bm nm h with rfl | h
    .exact .inr fA
    exact .inl h
   exact .inr (gK _ h)
 rcases this l [] h with h | h
 .cases h
 exact h
end Go.Proofs.YtbgfljpnhhdkoaaGreat
