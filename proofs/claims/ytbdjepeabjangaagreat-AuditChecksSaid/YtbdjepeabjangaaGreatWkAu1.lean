import Derived.Test.YtbdjepeabjangaaGreatWkVi9
set_option maxRecDepth 20000
set_option linter.all false
set_option maxHeartbeats 8000000
open Go.Proofs.Tryz
namespace Go.Proofs.YtbdjepeabjangaaGreat
open Go Go.Vm
variable {k:Nat}{key:ByteArray}
structure LK where
 kind:Int
 move:Int
 DX:Int
 DY:Int
 deriving DecidableEq
@[simp] abbrev Gx(s:LK):D:= .agg [.v (.int .i64 s.kind),.v (.int .i64 s.move),.v (.int .i64 s.DX),.v (.int .i64 s.DY)]
structure HE where
 group:Int
 node:Int
 hook:Int
 key:ByteArray
 deriving DecidableEq
@[simp] abbrev mZ(s:HE):D:= .agg [.v (.int .i64 s.group),.v (.int .i64 s.node),.v (.int .i64 s.hook),.v (.string s.key)]
structure KD where
 ID:Int
 look:LK
 deriving DecidableEq
@[simp] abbrev qX(s:KD):D:= .agg [.v (.int .i64 s.ID),.v (.int .i64 s.look.kind),.v (.int .i64 s.look.move),.v (.int .i64 s.look.DX),.v (.int .i64 s.look.DY)]
structure RFF where
 frame:Bool
 token:Int
 deriving DecidableEq
@[simp] abbrev aTw(s:RFF):D:= .agg [.v (.bool s.frame),.v (.int .i64 s.token)]
structure JB where
 kind:Int
 node:Int
 deriving DecidableEq
@[simp] abbrev aU0(s:JB):D:= .agg [.v (.int .i64 s.kind),.v (.int .i64 s.node)]
structure PDG where
 ref:RFF
 job:JB
 left:Int
 deadline:Int
 deriving DecidableEq
@[simp] abbrev Ie(s:PDG):D:= .agg [.v (.bool s.ref.frame),.v (.int .i64 s.ref.token),.v (.int .i64 s.job.kind),.v (.int .i64 s.job.node),.v (.int .i64 s.left),.v (.int .i64 s.deadline)]
structure WAT where
 frame:Bool
 kind:Int
 node:Int
 left:Int
 deadline:Int
 deriving DecidableEq
@[simp] abbrev zC(s:WAT):D:= .agg [.v (.bool s.frame),.v (.int .i64 s.kind),.v (.int .i64 s.node),.v (.int .i64 s.left),.v (.int .i64 s.deadline)]
structure FND where
 kind:Int
 ID:Int
 deriving DecidableEq
@[simp] abbrev mC(s:FND):D:= .agg [.v (.int .i64 s.kind),.v (.int .i64 s.ID)]
structure AWT where
 kind:Int
 frame:Bool
 deriving DecidableEq
@[simp] abbrev Qa(s:AWT):D:= .agg [.v (.int .i64 s.kind),.v (.bool s.frame)]
structure PIC where
 tree:TN
 view:VN
 mounted:Bool
 now:Int
 kids:(List KD)
 pending:(List PDG)
 hooks:(List HE)
@[simp] abbrev uG(s:PIC):D:= .agg [.v (.int .i64 s.tree.ID),.v (.int .i64 s.tree.kind),.v (.string s.tree.tag),.v (.string s.tree.text),.sl false (s.tree.classes.map D.str),.sl false (s.tree.attrs.map cH),.sl false (s.tree.styles.map bY),.sl false (s.tree.kids.map mK),.v (.int .i64 s.view.kind),.v (.string s.view.tag),.v (.string s.view.key),.v (.string s.view.text),.sl false (s.view.classes.map D.str),.sl false (s.view.attrs.map cH),.sl false (s.view.styles.map bY),.v (.int .i64 s.view.opts.enter),.v (.int .i64 s.view.opts.leave),.v (.int .i64 s.view.opts.move),.v (.int .i64 s.view.opts.mode),.v (.bool s.view.opts.appear),.v (.bool s.view.opts.moves),.sl false (s.view.kids.map jO),.v (.bool s.mounted),.v (.int .i64 s.now),.sl false (s.kids.map qX),.sl false (s.pending.map Ie),.sl false (s.hooks.map mZ)]
@[simp] abbrev aUe(s:PIC):D:= .agg [.v (.int .i64 s.tree.ID),.v (.int .i64 s.tree.kind),.v (.string s.tree.tag),.v (.string s.tree.text),.sl true (s.tree.classes.map D.str),.sl true (s.tree.attrs.map cH),.sl true (s.tree.styles.map bY),.sl true (s.tree.kids.map mK),.v (.int .i64 s.view.kind),.v (.string s.view.tag),.v (.string s.view.key),.v (.string s.view.text),.sl true (s.view.classes.map D.str),.sl true (s.view.attrs.map cH),.sl true (s.view.styles.map bY),.v (.int .i64 s.view.opts.enter),.v (.int .i64 s.view.opts.leave),.v (.int .i64 s.view.opts.move),.v (.int .i64 s.view.opts.mode),.v (.bool s.view.opts.appear),.v (.bool s.view.opts.moves),.sl true (s.view.kids.map jO),.v (.bool s.mounted),.v (.int .i64 s.now),.sl true (s.kids.map qX),.sl true (s.pending.map Ie),.sl true (s.hooks.map mZ)]
structure RPC where
 tree:TN
 view:VN
 mounted:Bool
 now:Int
 kids:(List KD)
 pending:(List WAT)
 hooks:(List HE)
@[simp] abbrev Hh(s:RPC):D:= .agg [.v (.int .i64 s.tree.ID),.v (.int .i64 s.tree.kind),.v (.string s.tree.tag),.v (.string s.tree.text),.sl false (s.tree.classes.map D.str),.sl false (s.tree.attrs.map cH),.sl false (s.tree.styles.map bY),.sl false (s.tree.kids.map mK),.v (.int .i64 s.view.kind),.v (.string s.view.tag),.v (.string s.view.key),.v (.string s.view.text),.sl false (s.view.classes.map D.str),.sl false (s.view.attrs.map cH),.sl false (s.view.styles.map bY),.v (.int .i64 s.view.opts.enter),.v (.int .i64 s.view.opts.leave),.v (.int .i64 s.view.opts.move),.v (.int .i64 s.view.opts.mode),.v (.bool s.view.opts.appear),.v (.bool s.view.opts.moves),.sl false (s.view.kids.map jO),.v (.bool s.mounted),.v (.int .i64 s.now),.sl false (s.kids.map qX),.sl false (s.pending.map zC),.sl false (s.hooks.map mZ)]
@[simp] abbrev aTn(s:RPC):D:= .agg [.v (.int .i64 s.tree.ID),.v (.int .i64 s.tree.kind),.v (.string s.tree.tag),.v (.string s.tree.text),.sl true (s.tree.classes.map D.str),.sl true (s.tree.attrs.map cH),.sl true (s.tree.styles.map bY),.sl true (s.tree.kids.map mK),.v (.int .i64 s.view.kind),.v (.string s.view.tag),.v (.string s.view.key),.v (.string s.view.text),.sl true (s.view.classes.map D.str),.sl true (s.view.attrs.map cH),.sl true (s.view.styles.map bY),.v (.int .i64 s.view.opts.enter),.v (.int .i64 s.view.opts.leave),.v (.int .i64 s.view.opts.move),.v (.int .i64 s.view.opts.mode),.v (.bool s.view.opts.appear),.v (.bool s.view.opts.moves),.sl true (s.view.kids.map jO),.v (.bool s.mounted),.v (.int .i64 s.now),.sl true (s.kids.map qX),.sl true (s.pending.map zC),.sl true (s.hooks.map mZ)]
structure DRW where
 tree:(List FL)
 view:(List FL)
 mounted:Bool
 now:Int
 kids:(List KD)
 pending:(List WAT)
 hooks:(List HE)
@[simp] abbrev Wo(s:DRW):D:= .agg [.sl false (s.tree.map Cx),.sl false (s.view.map Cx),.v (.bool s.mounted),.v (.int .i64 s.now),.sl false (s.kids.map qX),.sl false (s.pending.map zC),.sl false (s.hooks.map mZ)]
@[simp] abbrev aTz(s:DRW):D:= .agg [.sl true (s.tree.map Cx),.sl true (s.view.map Cx),.v (.bool s.mounted),.v (.int .i64 s.now),.sl true (s.kids.map qX),.sl true (s.pending.map zC),.sl true (s.hooks.map mZ)]
def aS8(e:HE):HE:= { e with key:=qY 20 e.key }
def oM(l:List HE)(n:Nat):List HE:=(l.take n).map aS8
theorem aO0(l:List HE):oM l 0= []:=rfl
theorem aA3(l:List HE)(k:Nat)(h:k<l.length):oM l (k+1)=oM l k++ [⟨l[k].group,l[k].node,l[k].hook,qY 20 l[k].key⟩]:=by unfold oM;rw [bB l k h,cX];rfl
theorem yX(l:List HE)(n:Nat):(oM l n).length<=n:=by unfold oM;simp;omega
theorem aHq(l:List HE)(k n:Nat)(h:l.length<=k)(hn:k<=n):oM l k=oM l n:=by
 unfold oM;rw [bZ h,bZ (cZ h hn)]
def qQ(s h:Int):Int:=if(s=0/\h=1)\/(s=6/\h=1)then 1 else if s=1/\h=2 then 2 else if(s=2/\h=3)\/(s=2/\h=4)then 3 else if(s=0/\h=5)\/(s=3/\h=5)then 4 else if s=4/\h=6 then 5 else if(s=5/\h=7)\/(s=5/\h=8)then 6 else -1
def Ec(k:Nat):Int×Int×Int:= [(0,1,1),(0,5,4),(1,2,2),(2,3,3),(2,4,3),(3,5,4),(4,6,5),(5,7,6),(5,8,6)].getD k (6,1,1)
theorem aGc(k:Nat)(h:k<10):([D.sl false [D.int 0,D.int 1,D.int 1],D.sl false [D.int 0,D.int 5,D.int 4],D.sl false [D.int 1,D.int 2,D.int 2],D.sl false [D.int 2,D.int 3,D.int 3],D.sl false [D.int 2,D.int 4,D.int 3],D.sl false [D.int 3,D.int 5,D.int 4],D.sl false [D.int 4,D.int 6,D.int 5],D.sl false [D.int 5,D.int 7,D.int 6],D.sl false [D.int 5,D.int 8,D.int 6],D.sl false [D.int 6,D.int 1,D.int 1]][k]?).getD D.any= .sl false [D.int (Ec k).1,D.int (Ec k).2.1,D.int (Ec k).2.2]:=by
 match k,h with
 | 0,_ | 1,_ | 2,_ | 3,_ | 4,_ | 5,_ | 6,_ | 7,_ | 8,_ | 9,_=>rfl
theorem aHx {s h:Int} (hk:k<10)(h1:(Ec k).1=s)(h2:(Ec k).2.1=h):(Ec k).2.2=qQ s h:=by
 subst h1;subst h2
 match k,hk with
 | 0,_ | 1,_ | 2,_ | 3,_ | 4,_ | 5,_ | 6,_ | 7,_ | 8,_ | 9,_=>decide
theorem aAe {s h:Int} (hh:∀k,k<10->¬((Ec k).1=s/\(Ec k).2.1=h)):qQ s h= -1:=by
 have h0:=hh 0 (by omega);have h1:=hh 1 (by omega);have h2:=hh 2 (by omega);have h3:=hh 3 (by omega);have h4:=hh 4 (by omega)
 have h5:=hh 5 (by omega);have h6:=hh 6 (by omega);have h7:=hh 7 (by omega);have h8:=hh 8 (by omega);have h9:=hh 9 (by omega)
 simp only [Ec,lX,pG,Jg,List.getElem?_nil,gU,vO] at h0 h1 h2 h3 h4 h5 h6 h7 h8 h9;unfold qQ
 (repeat' split) <;> first | rfl | omega
theorem Vx(s h:Int): -1<=qQ s h/\qQ s h<=6:=by unfold qQ;(repeat' split) <;> omega
def tJ(s h:Int):Int:=if 0<=s then qQ s h else s
def mD(l:List Int):Int:=l.foldl tJ 0
theorem aN8(l:List Int): -1<=mD l/\mD l<=6:=by
 have:∀(l:List Int) (s:Int), -1<=s/\s<=6-> -1<=l.foldl tJ s/\l.foldl tJ s<=6:=by
  intro l;induction l with
  | nil=>intro s h;exact h
  | cons a l ih=>intro s h;exact ih _ (by unfold tJ;split;exact Vx _ _;exact h)
 exact this l 0 (by omega)
theorem Je(l:List Int)(h:Int):mD (l++ [h])=tJ (mD l) h:=by unfold mD;rw [kI];rfl
theorem Hv(l:List Int)(k:Nat)(h:k<l.length):mD (l.take (k+1))=tJ (mD (l.take k)) l[k]:=by rw [bB l k h,Je]
def xU(l:List HE)(g:Int)(key:ByteArray):List Int:=(l.filter fun e=>decide (e.group=g) && decide (e.key=key)).map HE.hook
theorem Uw(l:List HE)(g:Int)(key:ByteArray)(k:Nat):(xU (l.take k) g key).length<=k:=by
 unfold xU;have:=gE (fun e:HE=>decide (e.group=g) && decide (e.key=key)) (l.take k);simp at this |-;omega
theorem Vh {l:List HE} {g:Int} (h:k<l.length)(h1:l[k].group=g)(h2:l[k].key=key):xU (l.take (k+1)) g key=xU (l.take k) g key++ [l[k].hook]:=by
 unfold xU;rw [bB l k h,cT,cX];simp [h1,h2]
theorem Tj {l:List HE} {g:Int} (h:k<l.length)(h1:¬(l[k].group=g/\l[k].key=key)):xU (l.take (k+1)) g key=xU (l.take k) g key:=by
 unfold xU;rw [bB l k h,cT,cX];simp at h1 |-;exact h1
def qO(l:List HE):Bool:=l.all fun e=>decide (0<=mD (xU l e.group e.key))
theorem Ps {l:List HE} (h:k<l.length)(h1:mD (xU l l[k].group l[k].key)<0):qO l=false:=by
 rw [<- vH];unfold qO;rw [eT];intro hh;have:=hh l[k] (bS h);simp at this;omega
@[simp] abbrev q31_1:Cfg:=⟨[4,5,6,7,29,33,37,38],[],[],[],[]⟩
theorem aGh(l:List HE)(n:Nat)(σ:List (List D))(hl:l.length<=9223372036854775807)(hn:n<=1000):Ct prog 10 [.sl false (l.map mZ),D.int n] σ (fun r σ'=>r= .tup [.sl true ((oM l n).map mZ),.sl true ((oM l n).map mZ)]/\σ'=σ):=by
 refine zf func10 ?_;refine zr q31_1 fun _ _ Z=>?_;simp(disch:=omega);apply Z;refine zr q31_1 fun _ _ Z=>?_;simp(disch:=omega);apply Z;refine zr q31_1 fun _ _ Z=>?_;simp(disch:=omega);apply Z;apply aF;refine zr q31_1 fun _ _ Z=>?_;simp(disch:=omega);apply Z;apply aN;refine zk [0,1,4,5,6,7,8] ?_;refine bA (fun(k:Nat)=> [(8,.d (.v (.int .i64 (k:Int)))),(6,.d (.sl true ((oM l k).map mZ))),(7,.d (.sl true ((oM l k).map mZ))),(9,.d (.any))]) [6,7,8,9,10,11,12,13,14,15,16,17,18,19,20,21,22,23,24,25,26,27,28,29,30,31,32,33,34,35,36] (fun(k:Nat)=>k<=l.length/\k<=n) (fun(k:Nat)=>l.length - k) (0) (by simp <;> rfl) ?_ ?_ ?_
 .simp [aO0]
 .simp
 rintro k ⟨hk,hn2⟩;simp only [aM,aK];have hfl:=yX l k;apply aF;refine oL q31_1 fun all hall _ Z=>?_;have ga4:aQ all 4=some 14:=hall 4;refine zs 5 fun _ Y=>?_;simp(disch:=omega)[ga4];and_intros<;>(try omega);apply Y;refine zb 14 ?_ ?_<;>intro g1<;>try simp at g1
 .simp(disch:=omega)[ga4];apply Z;refine zI ?_ ?_<;>intro c2<;>try simp at c2
  .apply kL;refine zk [0,1,4,5,6,7,8,9] ?_;refine zr q31_1 fun _ _ Z=>?_;simp(disch:=omega);and_intros<;>(try omega);apply Z;refine zk [0,1,4,5,6,7,8,9] ?_;refine zr q31_1 fun _ _ Z=>?_;refine zs 2 fun _ Y=>?_;simp(disch:=omega);apply Y;refine aG fun _ Y=>?_;simp(disch:=omega);refine dX (tN _ 20 _ (by omega)) ?_;apply Y;simp(disch:=omega);apply Z;refine zk [0,1,4,5,6,7,8,9] ?_;refine ze q31_1 [.op {},.op {rL:=true},.op {},.op {},.op {},.op {rL:=true},.op {},.op {},.op {},.op {}] fun all hall _ Z=>?_;refine iK 8 fun _ Y=>?_;simp(disch:=omega);and_intros<;>(try omega);apply Y;simp(disch:=omega);apply Z;apply zB;refine zk [0,1,4,5,6,7,8,9] ?_;refine zt q31_1 fun _ _ Z=>?_;simp(disch:=omega);and_intros<;>(try omega);apply Z;refine zq (k+1) ?_ ?_ ?_
   .omega
   .try dsimp only
    omega
   simp(disch:=omega)[aA3]
  apply zE;refine zk [4,5,6,7] ?_;refine zr q31_1 fun _ _ Z=>?_;simp(disch:=omega);apply Z;apply aE;simp [aP];rw [show k=n by omega]
 simp(disch:=omega)[ga4];apply Z;refine aY (t:=false) (by simp) (fun h=>by cases h) (fun _=>?_);apply zE;refine zk [4,5,6,7] ?_;refine zr q31_1 fun _ _ Z=>?_;simp(disch:=omega);apply Z;apply aE;simp [aP];rw [aHq l k n (by omega) (by omega)]
theorem aC4(s h:Int)(σ:List (List D))  :Ct prog 72 [D.int s,D.int h] σ (fun r σ'=>r= .int (qQ s h)/\σ'=σ):=by
 refine zf func72 ?_;refine bT fun _ _ Z=>?_;simp(disch:=first|omega|assumption);apply Z;apply aF;refine bT fun _ _ Z=>?_;refine zs 8 fun _ Y=>?_;simp(disch:=first|omega|assumption);and_intros<;>try first|omega|exact rfl
 apply Y;simp(disch:=first|omega|assumption);and_intros<;>try first|omega|exact rfl
 apply Z;apply aN;refine zk [0,1,4,17,18,19] ?_;refine bA (fun(k:Nat)=> [(19,.d (.v (.int .i64 (k:Int)))),(6,.d (.any))]) [4,6,19,20,21,22,23,24,25,26,27,28,29,30,31,32,33,34,35,36,37,38] (fun(k:Nat)=>k<=10/\∀j,j<k->¬((Ec j).1=s/\(Ec j).2.1=h)) (fun(k:Nat)=>10 - k) (0) (by simp <;> rfl) ?_ ?_ ?_
 .simp
 .exact⟨by omega,fun j hj=>absurd hj (by omega)⟩
 rintro k ⟨hk,hh⟩;simp only [aM,aK];refine bT fun _ _ Z=>?_;simp(disch:=first|omega|assumption);apply Z;apply aF;refine zI ?_ ?_<;>intro c1<;>try simp at c1
 .have hget:=aGc k (by omega);apply kL;refine bT fun _ _ Z=>?_;simp(disch:=first|omega|assumption)[hget];and_intros<;>try first|omega|exact rfl
  apply Z;refine zk [0,1,6,17,18,19] ?_;refine oL ⟨[],[],[],[],[]⟩ fun all hall _ Z=>?_;have ga5:aQ all 5=some 28:=hall 5;refine zs 6 fun _ Y=>?_;simp(disch:=first|omega|assumption)[ga5,hget];and_intros<;>try first|omega|exact rfl
  apply Y;refine zb 28 ?_ ?_<;>intro g2<;>try simp at g2
  .simp(disch:=first|omega|assumption)[ga5,hget];and_intros<;>try first|omega|exact rfl
   apply Z;refine zI ?_ ?_<;>intro c3<;>try simp at c3
   .have hhi:=aHx (by omega:k<10) g2 c3;refine zk [0,1,6,17,18,19] ?_;refine bT fun _ _ Z=>?_;simp(disch:=first|omega|assumption)[hget];and_intros<;>try first|omega|exact rfl
    apply Z;apply aE;first | (simp [aP,hhi];done) | (simp [aP,hmi];done)
   apply lP;refine zk [0,1,6,17,18,19] ?_;refine tD fun _ _ Z=>?_;simp(disch:=first|omega|assumption)[hget];and_intros<;>try first|omega|exact rfl
   apply Z;refine zq (k+1) ?_ ?_ ?_
   .exact⟨by omega,fun j hj=>by rcases zO.1 hj with h1 | rfl;exact hh j h1;exact fun h2=>c3 h2.2⟩
   .try dsimp only
    omega
   simp(disch:=first|omega|assumption)[hget]
  simp(disch:=first|omega|assumption)[ga5,hget];apply Z;refine aY (t:=false) (by simp) (fun h=>by cases h) (fun _=>?_);apply lP;refine zk [0,1,6,17,18,19] ?_;refine tD fun _ _ Z=>?_;simp(disch:=first|omega|assumption)[hget];and_intros<;>try first|omega|exact rfl
  apply Z;refine zq (k+1) ?_ ?_ ?_
  .exact⟨by omega,fun j hj=>by rcases zO.1 hj with h1 | rfl;exact hh j h1;exact fun h2=>g2 h2.1⟩
  .try dsimp only
   omega
  simp(disch:=first|omega|assumption)[hget]
 obtain rfl:k=10:=by omega
 have hmi:=aAe hh;apply zE;refine bT fun _ _ Z=>?_;simp(disch:=first|omega|assumption);apply Z;apply aE;first | (simp [aP,hhi];done) | (simp [aP,hmi];done)
theorem aLc(l:List Int)(σ:List (List D))(hl:l.length<=99999):Ct prog 33 [.sl false (l.map D.int)] σ (fun r σ'=>r= .int (mD l)/\σ'=σ):=by
 refine zf func33 ?_;refine bT fun _ _ Z=>?_;simp(disch:=omega);apply Z;refine bT fun _ _ Z=>?_;simp(disch:=omega);apply Z;apply aF;refine bT fun _ _ Z=>?_;simp(disch:=omega);and_intros<;>(try omega);apply Z;apply aN;refine zk [2,3,6,7,8] ?_;refine bA (fun(k:Nat)=> [(8,.d (.v (.int .i64 (k:Int)))),(3,.d (.int (mD (l.take k)))),(5,.d (.any))]) [3,5,8,9,10,11,12,13,14,15,16,17] (fun(k:Nat)=>k<=l.length) (fun(k:Nat)=>l.length - k) (0) (by simp <;> rfl) ?_ ?_ ?_
 .simp [mD]
 .simp
 rintro k hk;simp only [aM,aK];have hrb:=aN8 (l.take k);refine bT fun _ _ Z=>?_;simp(disch:=omega);apply Z;apply aF;refine zI ?_ ?_<;>intro c1<;>try simp at c1
 .apply kL;refine bT fun _ _ Z=>?_;simp(disch:=omega);and_intros<;>(try omega);apply Z;refine bT fun _ _ Z=>?_;simp(disch:=omega);apply Z;refine zI ?_ ?_<;>intro c2<;>try simp at c2
  .have hnx:mD (l.take (k+1))=qQ (mD (l.take k)) l[k]:=by rw [Hv l k c1];unfold tJ;rw [aR (by omega)]
   refine zk [2,3,5,6,7,8] ?_;refine tD fun _ _ Z=>?_;refine zs 2 fun _ Y=>?_;simp(disch:=omega);apply Y;refine aG fun _ Y=>?_;simp(disch:=omega);refine dX (aC4 (mD (l.take k)) l[k] _) ?_;apply Y;simp(disch:=omega);apply Z;apply zB;refine tD fun _ _ Z=>?_;simp(disch:=omega);and_intros<;>(try omega);apply Z;refine zq (k+1) ?_ ?_ ?_
   .omega
   .try dsimp only
    omega
   simp(disch:=omega)[hnx]
  have hnx:mD (l.take (k+1))=mD (l.take k):=by rw [Hv l k c1];unfold tJ;rw [aH (by omega)]
  apply lP;refine zk [2,3,5,6,7,8] ?_;refine tD fun _ _ Z=>?_;simp(disch:=omega);and_intros<;>(try omega);apply Z;refine zq (k+1) ?_ ?_ ?_
  .omega
  .try dsimp only
   omega
  simp(disch:=omega)[hnx]
 obtain rfl:k=l.length:=by omega
 apply zE;refine bT fun _ _ Z=>?_;simp(disch:=omega);apply Z;apply aE;simp [aP]
@[simp] abbrev q31_2:Cfg:=⟨[6,7,27,33],[],[],[],[]⟩
theorem aJi(l:List HE)(g:Int)(key:ByteArray)(σ:List (List D))(hl:l.length<=99999):Ct prog 34 [.sl false (l.map mZ),D.int g,D.str key] σ (fun r σ'=>r= .sl true ((xU l g key).map D.int)/\σ'=σ):=by
 refine zf func34 ?_;refine zr q31_2 fun _ _ Z=>?_;simp(disch:=omega);apply Z;refine zr q31_2 fun _ _ Z=>?_;simp(disch:=omega);and_intros<;>(try omega);apply Z;apply aF;refine zr q31_2 fun _ _ Z=>?_;simp(disch:=omega);and_intros<;>(try omega);apply Z;apply aN;refine zk [1,2,6,7,11,12,13] ?_;refine bA (fun(k:Nat)=> [(13,.d (.v (.int .i64 (k:Int)))),(7,.d (.sl true ((xU (l.take k) g key).map D.int))),(9,.d (.any))]) [7,9,13,14,15,16,17,18,19,20,21,22,23,24,25,26,27,28,29,30,31,32] (fun(k:Nat)=>k<=l.length) (fun(k:Nat)=>l.length - k) (0) (by simp <;> rfl) ?_ ?_ ?_
 .simp [xU]
 .simp
 rintro k hk;simp only [aM,aK];have hfl:=Uw l g key k;refine zr q31_2 fun _ _ Z=>?_;simp(disch:=omega);apply Z;apply aF;refine zI ?_ ?_<;>intro c1<;>try simp at c1
 .apply kL;refine zr q31_2 fun _ _ Z=>?_;simp(disch:=omega);and_intros<;>(try omega);apply Z;refine zk [1,2,6,7,9,11,12,13] ?_;refine oL q31_2 fun all hall _ Z=>?_;have ga4:aQ all 4=some 21:=hall 4;refine zs 5 fun _ Y=>?_;simp(disch:=omega)[ga4];apply Y;refine zb 21 ?_ ?_<;>intro g2<;>try simp at g2
  .simp(disch:=omega)[ga4];apply Z;refine zI ?_ ?_<;>intro c3<;>try simp at c3
   .have hnx:=Vh c1 g2 c3;refine zk [1,2,6,7,9,11,12,13] ?_;refine zt q31_2 fun _ _ Z=>?_;simp(disch:=omega);and_intros<;>(try omega);apply Z;apply zB;refine zk [1,2,6,7,9,11,12,13] ?_;refine zt q31_2 fun _ _ Z=>?_;simp(disch:=omega);and_intros<;>(try omega);apply Z;refine zq (k+1) ?_ ?_ ?_
    .omega
    .try dsimp only
     omega
    simp(disch:=omega)[hnx]
   have hnx:=Tj (g:=g) (key:=key) c1 (fun h=>c3 h.2);apply lP;refine zk [1,2,6,7,9,11,12,13] ?_;refine zt q31_2 fun _ _ Z=>?_;simp(disch:=omega);and_intros<;>(try omega);apply Z;refine zq (k+1) ?_ ?_ ?_
   .omega
   .try dsimp only
    omega
   simp(disch:=omega)[hnx]
  have hnx:=Tj (g:=g) (key:=key) c1 (fun h=>g2 h.1);simp(disch:=omega)[ga4];apply Z;refine aY (t:=false) (by simp) (fun h=>by cases h) (fun _=>?_);apply lP;refine zk [1,2,6,7,9,11,12,13] ?_;refine zt q31_2 fun _ _ Z=>?_;simp(disch:=omega);and_intros<;>(try omega);apply Z;refine zq (k+1) ?_ ?_ ?_
  .omega
  .try dsimp only
   omega
  simp(disch:=omega)[hnx]
 obtain rfl:k=l.length:=by omega
 apply zE;refine zr q31_2 fun _ _ Z=>?_;simp(disch:=omega);apply Z;apply aE;simp [aP]
theorem Ts(l:List HE)(σ:List (List D))(hl:l.length<=99999):Ct prog 11 [.sl false (l.map mZ)] σ (fun r σ'=>r= .bool (qO l)/\σ'=σ):=by
 refine zf func11 ?_;refine bT fun _ _ Z=>?_;simp(disch:=omega);apply Z;apply aF;refine bT fun _ _ Z=>?_;simp(disch:=omega);and_intros<;>(try omega);apply Z;apply aN;refine zk [0,2,5,6,7] ?_;refine bA (fun(k:Nat)=> [(7,.d (.v (.int .i64 (k:Int)))),(4,.d (.any))]) [2,4,7,8,9,10,11,12,13,14,15,16,17,18,19] (fun(k:Nat)=>k<=l.length/\∀e∈l.take k,decide (0<=mD (xU l e.group e.key))=true) (fun(k:Nat)=>l.length - k) (0) (by simp <;> rfl) ?_ ?_ ?_
 .simp
 .simp
 rintro k ⟨hk,hh⟩;simp only [aM,aK];refine bT fun _ _ Z=>?_;simp(disch:=omega);apply Z;apply aF;refine zI ?_ ?_<;>intro c1<;>try simp at c1
 .apply kL;refine bT fun _ _ Z=>?_;simp(disch:=omega);and_intros<;>(try omega);apply Z;refine bT fun _ _ Z=>?_;refine zs 5 fun _ Y=>?_;simp(disch:=omega);apply Y;refine aG fun _ Y=>?_;simp(disch:=omega);refine dX (aJi l l[k].group l[k].key _ (by omega)) ?_;apply Y;refine aG fun _ Y=>?_;simp(disch:=omega);refine dX (aLc (xU l l[k].group l[k].key) _ (by have:=Uw l l[k].group l[k].key l.length;rw [dY] at this;omega)) ?_;apply Y;simp(disch:=omega);apply Z;refine zI ?_ ?_<;>intro c2<;>try simp at c2
  .refine zk [0,4,5,6,7] ?_;refine bT fun _ _ Z=>?_;simp(disch:=omega);apply Z;apply aE;simp [aP];exact Ps c1 c2
  apply lP;refine zk [0,4,5,6,7] ?_;refine tD fun _ _ Z=>?_;simp(disch:=omega);and_intros<;>(try omega);apply Z;refine zq (k+1) ?_ ?_ ?_
  .exact⟨by omega,fun e he=>by
    rw [bB l k (by omega)] at he;rcases dZ.1 he with he | he
    .exact hh e he
    rw [iW.1 he];simp;omega⟩
  .try dsimp only
   omega
  simp(disch:=omega)
 apply zE;refine bT fun _ _ Z=>?_;simp(disch:=omega);apply Z;apply aE;rw [bZ (by omega)] at hh;simp only [aP];have hb:qO l=true:=by unfold qO;rw [eT];exact hh
 simp [hb]
end Go.Proofs.YtbdjepeabjangaaGreat
