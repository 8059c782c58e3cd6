import Derived.Test.YtbdjepeabjangaaGreatWkVi9
set_option maxRecDepth 20000
set_option linter.all false
set_option maxHeartbeats 8000000
open Go.Proofs.Tryz
namespace Go.Proofs.YtbdjepeabjangaaGreat
open Go Go.Vm
variable {k:Nat}{key:ByteArray}
structure LK where
 kind:Int
 move:Int
 DX:Int
 DY:Int
 deriving DecidableEq
@[simp] abbrev Pq(s:LK):D:= .agg [.v (.int .i64 s.kind),.v (.int .i64 s.move),.v (.int .i64 s.DX),.v (.int .i64 s.DY)]
structure HE where
 group:Int
 node:Int
 hook:Int
 key:ByteArray
 deriving DecidableEq
@[simp] abbrev lI(s:HE):D:= .agg [.v (.int .i64 s.group),.v (.int .i64 s.node),.v (.int .i64 s.hook),.v (.string s.key)]
structure KD where
 ID:Int
 look:LK
 deriving DecidableEq
@[simp] abbrev pG(s:KD):D:= .agg [.v (.int .i64 s.ID),.v (.int .i64 s.look.kind),.v (.int .i64 s.look.move),.v (.int .i64 s.look.DX),.v (.int .i64 s.look.DY)]
structure RFF where
 frame:Bool
 token:Int
 deriving DecidableEq
@[simp] abbrev aOp(s:RFF):D:= .agg [.v (.bool s.frame),.v (.int .i64 s.token)]
structure JB where
 kind:Int
 node:Int
 deriving DecidableEq
@[simp] abbrev aP2(s:JB):D:= .agg [.v (.int .i64 s.kind),.v (.int .i64 s.node)]
structure PDG where
 ref:RFF
 job:JB
 left:Int
 deadline:Int
 deriving DecidableEq
@[simp] abbrev Gg(s:PDG):D:= .agg [.v (.bool s.ref.frame),.v (.int .i64 s.ref.token),.v (.int .i64 s.job.kind),.v (.int .i64 s.job.node),.v (.int .i64 s.left),.v (.int .i64 s.deadline)]
structure WAT where
 frame:Bool
 kind:Int
 node:Int
 left:Int
 deadline:Int
 deriving DecidableEq
@[simp] abbrev vS(s:WAT):D:= .agg [.v (.bool s.frame),.v (.int .i64 s.kind),.v (.int .i64 s.node),.v (.int .i64 s.left),.v (.int .i64 s.deadline)]
structure FND where
 kind:Int
 ID:Int
 deriving DecidableEq
@[simp] abbrev rZ(s:FND):D:= .agg [.v (.int .i64 s.kind),.v (.int .i64 s.ID)]
structure AWT where
 kind:Int
 frame:Bool
 deriving DecidableEq
@[simp] abbrev Kv(s:AWT):D:= .agg [.v (.int .i64 s.kind),.v (.bool s.frame)]
structure PIC where
 tree:TN
 view:VN
 mounted:Bool
 now:Int
 kids:(List KD)
 pending:(List PDG)
 hooks:(List HE)
@[simp] abbrev rN(s:PIC):D:= .agg [.v (.int .i64 s.tree.ID),.v (.int .i64 s.tree.kind),.v (.string s.tree.tag),.v (.string s.tree.text),.sl false (s.tree.classes.map D.str),.sl false (s.tree.attrs.map cD),.sl false (s.tree.styles.map bV),.sl false (s.tree.kids.map mQ),.v (.int .i64 s.view.kind),.v (.string s.view.tag),.v (.string s.view.key),.v (.string s.view.text),.sl false (s.view.classes.map D.str),.sl false (s.view.attrs.map cD),.sl false (s.view.styles.map bV),.v (.int .i64 s.view.opts.enter),.v (.int .i64 s.view.opts.leave),.v (.int .i64 s.view.opts.move),.v (.int .i64 s.view.opts.mode),.v (.bool s.view.opts.appear),.v (.bool s.view.opts.moves),.sl false (s.view.kids.map kJ),.v (.bool s.mounted),.v (.int .i64 s.now),.sl false (s.kids.map pG),.sl false (s.pending.map Gg),.sl false (s.hooks.map lI)]
@[simp] abbrev aPa(s:PIC):D:= .agg [.v (.int .i64 s.tree.ID),.v (.int .i64 s.tree.kind),.v (.string s.tree.tag),.v (.string s.tree.text),.sl true (s.tree.classes.map D.str),.sl true (s.tree.attrs.map cD),.sl true (s.tree.styles.map bV),.sl true (s.tree.kids.map mQ),.v (.int .i64 s.view.kind),.v (.string s.view.tag),.v (.string s.view.key),.v (.string s.view.text),.sl true (s.view.classes.map D.str),.sl true (s.view.attrs.map cD),.sl true (s.view.styles.map bV),.v (.int .i64 s.view.opts.enter),.v (.int .i64 s.view.opts.leave),.v (.int .i64 s.view.opts.move),.v (.int .i64 s.view.opts.mode),.v (.bool s.view.opts.appear),.v (.bool s.view.opts.moves),.sl true (s.view.kids.map kJ),.v (.bool s.mounted),.v (.int .i64 s.now),.sl true (s.kids.map pG),.sl true (s.pending.map Gg),.sl true (s.hooks.map lI)]
structure RPC where
 tree:TN
 view:VN
 mounted:Bool
 now:Int
 kids:(List KD)
 pending:(List WAT)
 hooks:(List HE)
@[simp] abbrev aHu(s:RPC):D:= .agg [.v (.int .i64 s.tree.ID),.v (.int .i64 s.tree.kind),.v (.string s.tree.tag),.v (.string s.tree.text),.sl false (s.tree.classes.map D.str),.sl false (s.tree.attrs.map cD),.sl false (s.tree.styles.map bV),.sl false (s.tree.kids.map mQ),.v (.int .i64 s.view.kind),.v (.string s.view.tag),.v (.string s.view.key),.v (.string s.view.text),.sl false (s.view.classes.map D.str),.sl false (s.view.attrs.map cD),.sl false (s.view.styles.map bV),.v (.int .i64 s.view.opts.enter),.v (.int .i64 s.view.opts.leave),.v (.int .i64 s.view.opts.move),.v (.int .i64 s.view.opts.mode),.v (.bool s.view.opts.appear),.v (.bool s.view.opts.moves),.sl false (s.view.kids.map kJ),.v (.bool s.mounted),.v (.int .i64 s.now),.sl false (s.kids.map pG),.sl false (s.pending.map vS),.sl false (s.hooks.map lI)]
@[simp] abbrev aOo(s:RPC):D:= .agg [.v (.int .i64 s.tree.ID),.v (.int .i64 s.tree.kind),.v (.string s.tree.tag),.v (.string s.tree.text),.sl true (s.tree.classes.map D.str),.sl true (s.tree.attrs.map cD),.sl true (s.tree.styles.map bV),.sl true (s.tree.kids.map mQ),.v (.int .i64 s.view.kind),.v (.string s.view.tag),.v (.string s.view.key),.v (.string s.view.text),.sl true (s.view.classes.map D.str),.sl true (s.view.attrs.map cD),.sl true (s.view.styles.map bV),.v (.int .i64 s.view.opts.enter),.v (.int .i64 s.view.opts.leave),.v (.int .i64 s.view.opts.move),.v (.int .i64 s.view.opts.mode),.v (.bool s.view.opts.appear),.v (.bool s.view.opts.moves),.sl true (s.view.kids.map kJ),.v (.bool s.mounted),.v (.int .i64 s.now),.sl true (s.kids.map pG),.sl true (s.pending.map vS),.sl true (s.hooks.map lI)]
structure DRW where
 tree:(List FL)
 view:(List FL)
 mounted:Bool
 now:Int
 kids:(List KD)
 pending:(List WAT)
 hooks:(List HE)
@[simp] abbrev Ry(s:DRW):D:= .agg [.sl false (s.tree.map Ah),.sl false (s.view.map Ah),.v (.bool s.mounted),.v (.int .i64 s.now),.sl false (s.kids.map pG),.sl false (s.pending.map vS),.sl false (s.hooks.map lI)]
@[simp] abbrev aPi(s:DRW):D:= .agg [.sl true (s.tree.map Ah),.sl true (s.view.map Ah),.v (.bool s.mounted),.v (.int .i64 s.now),.sl true (s.kids.map pG),.sl true (s.pending.map vS),.sl true (s.hooks.map lI)]
def aOd(e:HE):HE:= { e with key:=pF 20 e.key }
def mK(l:List HE)(n:Nat):List HE:=(l.take n).map aOd
theorem aJ0(l:List HE):mK l 0= []:=rfl
theorem Ug(l:List HE)(k:Nat)(h:k<l.length):mK l (k+1)=mK l k++ [⟨l[k].group,l[k].node,l[k].hook,pF 20 l[k].key⟩]:=by unfold mK;rw [bM l k h,dC];rfl
theorem vP(l:List HE)(n:Nat):(mK l n).length<=n:=by unfold mK;simp;omega
theorem aCn(l:List HE)(k n:Nat)(h:l.length<=k)(hn:k<=n):mK l k=mK l n:=by
 unfold mK;rw [bW h,bW (dJ h hn)]
def oZ(s h:Int):Int:=if(s=0/\h=1)\/(s=6/\h=1)then 1 else if s=1/\h=2 then 2 else if(s=2/\h=3)\/(s=2/\h=4)then 3 else if(s=0/\h=5)\/(s=3/\h=5)then 4 else if s=4/\h=6 then 5 else if(s=5/\h=7)\/(s=5/\h=8)then 6 else -1
def Av(k:Nat):Int×Int×Int:= [(0,1,1),(0,5,4),(1,2,2),(2,3,3),(2,4,3),(3,5,4),(4,6,5),(5,7,6),(5,8,6)].getD k (6,1,1)
theorem aDb(k:Nat)(h:k<10):([D.sl false [D.int 0,D.int 1,D.int 1],D.sl false [D.int 0,D.int 5,D.int 4],D.sl false [D.int 1,D.int 2,D.int 2],D.sl false [D.int 2,D.int 3,D.int 3],D.sl false [D.int 2,D.int 4,D.int 3],D.sl false [D.int 3,D.int 5,D.int 4],D.sl false [D.int 4,D.int 6,D.int 5],D.sl false [D.int 5,D.int 7,D.int 6],D.sl false [D.int 5,D.int 8,D.int 6],D.sl false [D.int 6,D.int 1,D.int 1]][k]?).getD D.any= .sl false [D.int (Av k).1,D.int (Av k).2.1,D.int (Av k).2.2]:=by
 match k,h with
 | 0,_ | 1,_ | 2,_ | 3,_ | 4,_ | 5,_ | 6,_ | 7,_ | 8,_ | 9,_=>rfl
theorem Zg {s h:Int} (hk:k<10)(h1:(Av k).1=s)(h2:(Av k).2.1=h):(Av k).2.2=oZ s h:=by
 subst h1;subst h2
 match k,hk with
 | 0,_ | 1,_ | 2,_ | 3,_ | 4,_ | 5,_ | 6,_ | 7,_ | 8,_ | 9,_=>decide
theorem Tn {s h:Int} (hh:∀k,k<10->¬((Av k).1=s/\(Av k).2.1=h)):oZ s h= -1:=by
 have h0:=hh 0 (by omega);have h1:=hh 1 (by omega);have h2:=hh 2 (by omega);have h3:=hh 3 (by omega);have h4:=hh 4 (by omega)
 have h5:=hh 5 (by omega);have h6:=hh 6 (by omega);have h7:=hh 7 (by omega);have h8:=hh 8 (by omega);have h9:=hh 9 (by omega)
 simp only [Av,kW,nM,Eo,List.getElem?_nil,gS,sY] at h0 h1 h2 h3 h4 h5 h6 h7 h8 h9;unfold oZ
 (repeat' split) <;> first | rfl | omega
theorem Rz(s h:Int): -1<=oZ s h/\oZ s h<=6:=by unfold oZ;(repeat' split) <;> omega
def rP(s h:Int):Int:=if 0<=s then oZ s h else s
def kX(l:List Int):Int:=l.foldl rP 0
theorem aJk(l:List Int): -1<=kX l/\kX l<=6:=by
 have:∀(l:List Int) (s:Int), -1<=s/\s<=6-> -1<=l.foldl rP s/\l.foldl rP s<=6:=by
  intro l;induction l with
  | nil=>intro s h;exact h
  | cons a l ih=>intro s h;exact ih _ (by unfold rP;split;exact Rz _ _;exact h)
 exact this l 0 (by omega)
theorem El(l:List Int)(h:Int):kX (l++ [h])=rP (kX l) h:=by unfold kX;rw [jD];rfl
theorem Fz(l:List Int)(k:Nat)(h:k<l.length):kX (l.take (k+1))=rP (kX (l.take k)) l[k]:=by rw [bM l k h,El]
def vK(l:List HE)(g:Int)(key:ByteArray):List Int:=(l.filter fun e=>decide (e.group=g) && decide (e.key=key)).map HE.hook
theorem Rs(l:List HE)(g:Int)(key:ByteArray)(k:Nat):(vK (l.take k) g key).length<=k:=by
 unfold vK;have:=gU (fun e:HE=>decide (e.group=g) && decide (e.key=key)) (l.take k);simp at this |-;omega
theorem Ro {l:List HE} {g:Int} (h:k<l.length)(h1:l[k].group=g)(h2:l[k].key=key):vK (l.take (k+1)) g key=vK (l.take k) g key++ [l[k].hook]:=by
 unfold vK;rw [bM l k h,eW,dC];simp [h1,h2]
theorem Of {l:List HE} {g:Int} (h:k<l.length)(h1:¬(l[k].group=g/\l[k].key=key)):vK (l.take (k+1)) g key=vK (l.take k) g key:=by
 unfold vK;rw [bM l k h,eW,dC];simp at h1 |-;exact h1
def lG(l:List HE):Bool:=l.all fun e=>decide (0<=kX (vK l e.group e.key))
theorem Ka {l:List HE} (h:k<l.length)(h1:kX (vK l l[k].group l[k].key)<0):lG l=false:=by
 rw [<- yE];unfold lG;rw [eJ];intro hh;have:=hh l[k] (cR h);simp at this;omega
@[simp] abbrev q31_1:Cfg:=⟨[4,5,6,7,29,33,37,38],[],[],[],[]⟩
theorem Lw(l:List HE)(n:Nat)(σ:List (List D))(hl:l.length<=9223372036854775807)(hn:n<=1000):Ct prog 10 [.sl false (l.map lI),D.int n] σ (fun r σ'=>r= .tup [.sl true ((mK l n).map lI),.sl true ((mK l n).map lI)]/\σ'=σ):=by
 refine zf func10 ?_;refine zr q31_1 fun _ _ Z=>?_;simp(disch:=omega);apply Z;refine zr q31_1 fun _ _ Z=>?_;simp(disch:=omega);apply Z;refine zr q31_1 fun _ _ Z=>?_;simp(disch:=omega);apply Z;apply aE;refine zr q31_1 fun _ _ Z=>?_;simp(disch:=omega);apply Z;apply aQ;refine zk [0,1,4,5,6,7,8] ?_;refine bK (fun(k:Nat)=> [(8,.d (.v (.int .i64 (k:Int)))),(6,.d (.sl true ((mK l k).map lI))),(7,.d (.sl true ((mK l k).map lI))),(9,.d (.any))]) [6,7,8,9,10,11,12,13,14,15,16,17,18,19,20,21,22,23,24,25,26,27,28,29,30,31,32,33,34,35,36] (fun(k:Nat)=>k<=l.length/\k<=n) (fun(k:Nat)=>l.length - k) (0) (by simp <;> rfl) ?_ ?_ ?_
 .simp [aJ0]
 .simp
 rintro k ⟨hk,hn2⟩;simp only [aO,aK];have hfl:=vP l k;apply aE;refine vJ q31_1 fun all hall _ Z=>?_;have ga4:aY all 4=some 14:=hall 4;refine zs 5 fun _ Y=>?_;simp(disch:=omega)[ga4];and_intros<;>(try omega);apply Y;refine zb 14 ?_ ?_<;>intro g1<;>try simp at g1
 .simp(disch:=omega)[ga4];apply Z;refine zI ?_ ?_<;>intro c2<;>try simp at c2
  .apply mT;refine zk [0,1,4,5,6,7,8,9] ?_;refine zr q31_1 fun _ _ Z=>?_;simp(disch:=omega);and_intros<;>(try omega);apply Z;refine zk [0,1,4,5,6,7,8,9] ?_;refine zr q31_1 fun _ _ Z=>?_;refine zs 2 fun _ Y=>?_;simp(disch:=omega);apply Y;refine aD fun _ Y=>?_;simp(disch:=omega);refine eH (sI _ 20 _ (by omega)) ?_;apply Y;simp(disch:=omega);apply Z;refine zk [0,1,4,5,6,7,8,9] ?_;refine ze q31_1 [.op {},.op {rL:=true},.op {},.op {},.op {},.op {rL:=true},.op {},.op {},.op {},.op {}] fun all hall _ Z=>?_;refine kY 8 fun _ Y=>?_;simp(disch:=omega);and_intros<;>(try omega);apply Y;simp(disch:=omega);apply Z;apply zB;refine zk [0,1,4,5,6,7,8,9] ?_;refine zt q31_1 fun _ _ Z=>?_;simp(disch:=omega);and_intros<;>(try omega);apply Z;refine zq (k+1) ?_ ?_ ?_
   .omega
   .try dsimp only
    omega
   simp(disch:=omega)[Ug]
  apply zE;refine zk [4,5,6,7] ?_;refine zr q31_1 fun _ _ Z=>?_;simp(disch:=omega);apply Z;apply aC;simp [aT];rw [show k=n by omega]
 simp(disch:=omega)[ga4];apply Z;refine cJ (t:=false) (by simp) (fun h=>by cases h) (fun _=>?_);apply zE;refine zk [4,5,6,7] ?_;refine zr q31_1 fun _ _ Z=>?_;simp(disch:=omega);apply Z;apply aC;simp [aT];rw [aCn l k n (by omega) (by omega)]
theorem aCz(s h:Int)(σ:List (List D))  :Ct prog 72 [D.int s,D.int h] σ (fun r σ'=>r= .int (oZ s h)/\σ'=σ):=by
 refine zf func72 ?_;refine cL fun _ _ Z=>?_;simp(disch:=first|omega|assumption);apply Z;apply aE;refine cL fun _ _ Z=>?_;refine zs 8 fun _ Y=>?_;simp(disch:=first|omega|assumption);and_intros<;>try first|omega|exact rfl
 apply Y;simp(disch:=first|omega|assumption);and_intros<;>try first|omega|exact rfl
 apply Z;apply aQ;refine zk [0,1,4,17,18,19] ?_;refine bK (fun(k:Nat)=> [(19,.d (.v (.int .i64 (k:Int)))),(6,.d (.any))]) [4,6,19,20,21,22,23,24,25,26,27,28,29,30,31,32,33,34,35,36,37,38] (fun(k:Nat)=>k<=10/\∀j,j<k->¬((Av j).1=s/\(Av j).2.1=h)) (fun(k:Nat)=>10 - k) (0) (by simp <;> rfl) ?_ ?_ ?_
 .simp
 .exact⟨by omega,fun j hj=>absurd hj (by omega)⟩
 rintro k ⟨hk,hh⟩;simp only [aO,aK];refine cL fun _ _ Z=>?_;simp(disch:=first|omega|assumption);apply Z;apply aE;refine zI ?_ ?_<;>intro c1<;>try simp at c1
 .have hget:=aDb k (by omega);apply mT;refine cL fun _ _ Z=>?_;simp(disch:=first|omega|assumption)[hget];and_intros<;>try first|omega|exact rfl
  apply Z;refine zk [0,1,6,17,18,19] ?_;refine vJ ⟨[],[],[],[],[]⟩ fun all hall _ Z=>?_;have ga5:aY all 5=some 28:=hall 5;refine zs 6 fun _ Y=>?_;simp(disch:=first|omega|assumption)[ga5,hget];and_intros<;>try first|omega|exact rfl
  apply Y;refine zb 28 ?_ ?_<;>intro g2<;>try simp at g2
  .simp(disch:=first|omega|assumption)[ga5,hget];and_intros<;>try first|omega|exact rfl
   apply Z;refine zI ?_ ?_<;>intro c3<;>try simp at c3
   .have hhi:=Zg (by omega:k<10) g2 c3;refine zk [0,1,6,17,18,19] ?_;refine cL fun _ _ Z=>?_;simp(disch:=first|omega|assumption)[hget];and_intros<;>try first|omega|exact rfl
    apply Z;apply aC;first | (simp [aT,hhi];done) | (simp [aT,hmi];done)
   apply rK;refine zk [0,1,6,17,18,19] ?_;refine Dd fun _ _ Z=>?_;simp(disch:=first|omega|assumption)[hget];and_intros<;>try first|omega|exact rfl
   apply Z;refine zq (k+1) ?_ ?_ ?_
   .exact⟨by omega,fun j hj=>by rcases xY.1 hj with h1 | rfl;exact hh j h1;exact fun h2=>c3 h2.2⟩
   .try dsimp only
    omega
   simp(disch:=first|omega|assumption)[hget]
  simp(disch:=first|omega|assumption)[ga5,hget];apply Z;refine cJ (t:=false) (by simp) (fun h=>by cases h) (fun _=>?_);apply rK;refine zk [0,1,6,17,18,19] ?_;refine Dd fun _ _ Z=>?_;simp(disch:=first|omega|assumption)[hget];and_intros<;>try first|omega|exact rfl
  apply Z;refine zq (k+1) ?_ ?_ ?_
  .exact⟨by omega,fun j hj=>by rcases xY.1 hj with h1 | rfl;exact hh j h1;exact fun h2=>g2 h2.1⟩
  .try dsimp only
   omega
  simp(disch:=first|omega|assumption)[hget]
 obtain rfl:k=10:=by omega
 have hmi:=Tn hh;apply zE;refine cL fun _ _ Z=>?_;simp(disch:=first|omega|assumption);apply Z;apply aC;first | (simp [aT,hhi];done) | (simp [aT,hmi];done)
theorem aGj(l:List Int)(σ:List (List D))(hl:l.length<=99999):Ct prog 33 [.sl false (l.map D.int)] σ (fun r σ'=>r= .int (kX l)/\σ'=σ):=by
 refine zf func33 ?_;refine cL fun _ _ Z=>?_;simp(disch:=omega);apply Z;refine cL fun _ _ Z=>?_;simp(disch:=omega);apply Z;apply aE;refine cL fun _ _ Z=>?_;simp(disch:=omega);and_intros<;>(try omega);apply Z;apply aQ;refine zk [2,3,6,7,8] ?_;refine bK (fun(k:Nat)=> [(8,.d (.v (.int .i64 (k:Int)))),(3,.d (.int (kX (l.take k)))),(5,.d (.any))]) [3,5,8,9,10,11,12,13,14,15,16,17] (fun(k:Nat)=>k<=l.length) (fun(k:Nat)=>l.length - k) (0) (by simp <;> rfl) ?_ ?_ ?_
 .simp [kX]
 .simp
 rintro k hk;simp only [aO,aK];have hrb:=aJk (l.take k);refine cL fun _ _ Z=>?_;simp(disch:=omega);apply Z;apply aE;refine zI ?_ ?_<;>intro c1<;>try simp at c1
 .apply mT;refine cL fun _ _ Z=>?_;simp(disch:=omega);and_intros<;>(try omega);apply Z;refine cL fun _ _ Z=>?_;simp(disch:=omega);apply Z;refine zI ?_ ?_<;>intro c2<;>try simp at c2
  .have hnx:kX (l.take (k+1))=oZ (kX (l.take k)) l[k]:=by rw [Fz l k c1];unfold rP;rw [aR (by omega)]
   refine zk [2,3,5,6,7,8] ?_;refine Dd fun _ _ Z=>?_;refine zs 2 fun _ Y=>?_;simp(disch:=omega);apply Y;refine aD fun _ Y=>?_;simp(disch:=omega);refine eH (aCz (kX (l.take k)) l[k] _) ?_;apply Y;simp(disch:=omega);apply Z;apply zB;refine Dd fun _ _ Z=>?_;simp(disch:=omega);and_intros<;>(try omega);apply Z;refine zq (k+1) ?_ ?_ ?_
   .omega
   .try dsimp only
    omega
   simp(disch:=omega)[hnx]
  have hnx:kX (l.take (k+1))=kX (l.take k):=by rw [Fz l k c1];unfold rP;rw [aG (by omega)]
  apply rK;refine zk [2,3,5,6,7,8] ?_;refine Dd fun _ _ Z=>?_;simp(disch:=omega);and_intros<;>(try omega);apply Z;refine zq (k+1) ?_ ?_ ?_
  .omega
  .try dsimp only
   omega
  simp(disch:=omega)[hnx]
 obtain rfl:k=l.length:=by omega
 apply zE;refine cL fun _ _ Z=>?_;simp(disch:=omega);apply Z;apply aC;simp [aT]
@[simp] abbrev q31_2:Cfg:=⟨[6,7,27,33],[],[],[],[]⟩
theorem aFg(l:List HE)(g:Int)(key:ByteArray)(σ:List (List D))(hl:l.length<=99999):Ct prog 34 [.sl false (l.map lI),D.int g,D.str key] σ (fun r σ'=>r= .sl true ((vK l g key).map D.int)/\σ'=σ):=by
 refine zf func34 ?_;refine zr q31_2 fun _ _ Z=>?_;simp(disch:=omega);apply Z;refine zr q31_2 fun _ _ Z=>?_;simp(disch:=omega);and_intros<;>(try omega);apply Z;apply aE;refine zr q31_2 fun _ _ Z=>?_;simp(disch:=omega);and_intros<;>(try omega);apply Z;apply aQ;refine zk [1,2,6,7,11,12,13] ?_;refine bK (fun(k:Nat)=> [(13,.d (.v (.int .i64 (k:Int)))),(7,.d (.sl true ((vK (l.take k) g key).map D.int))),(9,.d (.any))]) [7,9,13,14,15,16,17,18,19,20,21,22,23,24,25,26,27,28,29,30,31,32] (fun(k:Nat)=>k<=l.length) (fun(k:Nat)=>l.length - k) (0) (by simp <;> rfl) ?_ ?_ ?_
 .simp [vK]
 .simp
 rintro k hk;simp only [aO,aK];have hfl:=Rs l g key k;refine zr q31_2 fun _ _ Z=>?_;simp(disch:=omega);apply Z;apply aE;refine zI ?_ ?_<;>intro c1<;>try simp at c1
 .apply mT;refine zr q31_2 fun _ _ Z=>?_;simp(disch:=omega);and_intros<;>(try omega);apply Z;refine zk [1,2,6,7,9,11,12,13] ?_;refine vJ q31_2 fun all hall _ Z=>?_;have ga4:aY all 4=some 21:=hall 4;refine zs 5 fun _ Y=>?_;simp(disch:=omega)[ga4];apply Y;refine zb 21 ?_ ?_<;>intro g2<;>try simp at g2
  .simp(disch:=omega)[ga4];apply Z;refine zI ?_ ?_<;>intro c3<;>try simp at c3
   .have hnx:=Ro c1 g2 c3;refine zk [1,2,6,7,9,11,12,13] ?_;refine zt q31_2 fun _ _ Z=>?_;simp(disch:=omega);and_intros<;>(try omega);apply Z;apply zB;refine zk [1,2,6,7,9,11,12,13] ?_;refine zt q31_2 fun _ _ Z=>?_;simp(disch:=omega);and_intros<;>(try omega);apply Z;refine zq (k+1) ?_ ?_ ?_
    .omega
    .try dsimp only
     omega
    simp(disch:=omega)[hnx]
   have hnx:=Of (g:=g) (key:=key) c1 (fun h=>c3 h.2);apply rK;refine zk [1,2,6,7,9,11,12,13] ?_;refine zt q31_2 fun _ _ Z=>?_;simp(disch:=omega);and_intros<;>(try omega);apply Z;refine zq (k+1) ?_ ?_ ?_
   .omega
   .try dsimp only
    omega
   simp(disch:=omega)[hnx]
  have hnx:=Of (g:=g) (key:=key) c1 (fun h=>g2 h.1);simp(disch:=omega)[ga4];apply Z;refine cJ (t:=false) (by simp) (fun h=>by cases h) (fun _=>?_);apply rK;refine zk [1,2,6,7,9,11,12,13] ?_;refine zt q31_2 fun _ _ Z=>?_;simp(disch:=omega);and_intros<;>(try omega);apply Z;refine zq (k+1) ?_ ?_ ?_
  .omega
  .try dsimp only
   omega
  simp(disch:=omega)[hnx]
 obtain rfl:k=l.length:=by omega
 apply zE;refine zr q31_2 fun _ _ Z=>?_;simp(disch:=omega);apply Z;apply aC;simp [aT]
theorem Mr(l:List HE)(σ:List (List D))(hl:l.length<=99999):Ct prog 11 [.sl false (l.map lI)] σ (fun r σ'=>r= .bool (lG l)/\σ'=σ):=by
 refine zf func11 ?_;refine cL fun _ _ Z=>?_;simp(disch:=omega);apply Z;apply aE;refine cL fun _ _ Z=>?_;simp(disch:=omega);and_intros<;>(try omega);apply Z;apply aQ;refine zk [0,2,5,6,7] ?_;refine bK (fun(k:Nat)=> [(7,.d (.v (.int .i64 (k:Int)))),(4,.d (.any))]) [2,4,7,8,9,10,11,12,13,14,15,16,17,18,19] (fun(k:Nat)=>k<=l.length/\∀e∈l.take k,decide (0<=kX (vK l e.group e.key))=true) (fun(k:Nat)=>l.length - k) (0) (by simp <;> rfl) ?_ ?_ ?_
 .simp
 .simp
 rintro k ⟨hk,hh⟩;simp only [aO,aK];refine cL fun _ _ Z=>?_;simp(disch:=omega);apply Z;apply aE;refine zI ?_ ?_<;>intro c1<;>try simp at c1
 .apply mT;refine cL fun _ _ Z=>?_;simp(disch:=omega);and_intros<;>(try omega);apply Z;refine cL fun _ _ Z=>?_;refine zs 5 fun _ Y=>?_;simp(disch:=omega);apply Y;refine aD fun _ Y=>?_;simp(disch:=omega);refine eH (aFg l l[k].group l[k].key _ (by omega)) ?_;apply Y;refine aD fun _ Y=>?_;simp(disch:=omega);refine eH (aGj (vK l l[k].group l[k].key) _ (by have:=Rs l l[k].group l[k].key l.length;rw [gC] at this;omega)) ?_;apply Y;simp(disch:=omega);apply Z;refine zI ?_ ?_<;>intro c2<;>try simp at c2
  .refine zk [0,4,5,6,7] ?_;refine cL fun _ _ Z=>?_;simp(disch:=omega);apply Z;apply aC;simp [aT];exact Ka c1 c2
  apply rK;refine zk [0,4,5,6,7] ?_;refine Dd fun _ _ Z=>?_;simp(disch:=omega);and_intros<;>(try omega);apply Z;refine zq (k+1) ?_ ?_ ?_
  .exact⟨by omega,fun e he=>by
    rw [bM l k (by omega)] at he;rcases dZ.1 he with he | he
    .exact hh e he
    rw [iM.1 he];simp;omega⟩
  .try dsimp only
   omega
  simp(disch:=omega)
 apply zE;refine cL fun _ _ Z=>?_;simp(disch:=omega);apply Z;apply aC;rw [bW (by omega)] at hh;simp only [aT];have hb:lG l=true:=by unfold lG;rw [eJ];exact hh
 simp [hb]
end Go.Proofs.YtbdjepeabjangaaGreat
