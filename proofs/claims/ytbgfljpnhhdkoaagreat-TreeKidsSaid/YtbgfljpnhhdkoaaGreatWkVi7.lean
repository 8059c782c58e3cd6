import Derived.Test.YtbgfljpnhhdkoaaGreatWkDr11
set_option linter.all false
set_option maxRecDepth 20000
set_option maxHeartbeats 8000000
open Go.Proofs.Tryz
namespace Go.Proofs.YtbgfljpnhhdkoaaGreat
open Go Go.Vm
theorem aA8(x:Int): -2147483648<=Ae x/\Ae x<=2147483647:=by unfold Ae;omega
theorem Pe {x:Int} (h: -2147483648<=x/\x<=2147483647):Ae x=x:=by unfold Ae;omega
def Wg(a b:Int):Int:=Ae (Ae a+Ae b)
def Er(l:List Int):Int:=l.foldl Wg 0
theorem aDm(l:List Int)(k:Nat)(h:k<l.length):Er (l.take (k+1))=Wg (Er (l.take k)) l[k]:=by
 unfold Er;rw [bR l k h,jD];rfl
theorem aGp:∀(l:List Nat),l.sum<=1000000->Er (l.map fun n:Nat=>(n:Int))=(l.sum:Nat):=by
 have:∀(l:List Nat) (a:Nat),a+l.sum<=1000000->(l.map fun n:Nat=>(n:Int)).foldl Wg (a:Int)=((a+l.sum:Nat):Int):=by
  intro l;induction l with
  | nil=>intro a h;simp
  | cons b l ih =>
   intro a h;simp only [jG] at h;simp only [cK,dQ,jG];have e:Wg (a:Int) (b:Int)=((a+b:Nat):Int):=by
    unfold Wg;rw [Pe (x:=(a:Int)) (by omega),Pe (x:=(b:Int)) (by omega),Pe (by omega)];omega
   rw [e,ih (a+b) (by omega)];congr 1;omega
 intro l h;have:=this l 0 (by omega);simpa [Er] using this
def szK(v:VN)(j:Nat):List Int:=((v.kids.take j).map cT).map fun n:Nat=>(n:Int)
theorem aVq(v:VN):szK v 0= []:=rfl
theorem aN8(v:VN)(j:Nat):(szK v j).length<=j:=by unfold szK;simp;omega
theorem aI0 {v:VN} {j:Nat} (h:j<v.kids.length):szK v (j+1)=szK v j++ [(cT v.kids[j]:Int)]:=by
 unfold szK;rw [bR _ _ h,cO,cO];rfl
theorem aAg {v:VN} (h:cT v<=9999):1+Er (szK v v.kids.length)=(cT v:Int):=by
 have e:=jA v;unfold szK;rw [fJ,aGp _ (by omega)];omega
def zO(v:VN)(k:Nat):Nat:=((v.kids.take k).map cT).sum
theorem Nj(v:VN)(k:Nat)(h:k<v.kids.length):zO v (k+1)=zO v k+cT v.kids[k]:=by
 unfold zO;rw [bR _ _ h,cO,Fq];simp
theorem aI5(v:VN):zO v v.kids.length+1=cT v:=by unfold zO;rw [fJ,jA];omega
theorem aA2(v:VN)(k:Nat):zO v k+1<=cT v:=by
 rw [jA];unfold zO;have:((v.kids.take k).map cT).sum+((v.kids.drop k).map cT).sum=(v.kids.map cT).sum:=by rw [<- Fq,<- cO,fB]
 omega
abbrev aP7(v:VN):Prop:=∀σ:List (List D),Ct prog 174 [lF v,.clo (.func 175) [] []] σ (fun r σ'=>r=D.int (cT v)/\σ'=σ)
theorem aN2(a b:Int)(σ:List (List D))  :Ct prog 220 [D.int a,D.int b] σ (fun r σ'=>r= .int (Wg a b)/\σ'=σ):=by
 refine zf func220 ?_;have hA:=aA8 a;have hB:=aA8 b;refine bC fun _ _ Z=>?_;simp;apply Z;refine bC fun _ _ Z=>?_;refine zs 1 fun _ Y=>?_;simp;apply Y;refine aF fun _ Y=>?_;simp;refine cN (Rg a _) ?_;apply Y;refine zs 1 fun _ Y=>?_;simp;apply Y;refine aF fun _ Y=>?_;simp;refine cN (Rg b _) ?_;apply Y;refine zs 1 fun _ Y=>?_;simp;and_intros<;>(try omega);apply Y;refine aF fun _ Y=>?_;simp;refine cN (Rg (Ae a+Ae b) _) ?_;apply Y;simp;apply Z;apply aC;simp [aG,Wg]
theorem aQ9(l:List Int)(σ:List (List D))(hl:l.length<=99999):Ct prog 176 [.sl false (l.map D.int)] σ (fun r σ'=>r= .int (Er l)/\σ'=σ):=by
 refine zf func176 ?_;refine bC fun _ _ Z=>?_;simp(disch:=omega);apply Z;refine bC fun _ _ Z=>?_;simp(disch:=omega);apply Z;apply aE;refine bC fun _ _ Z=>?_;simp(disch:=omega);and_intros<;>(try omega);apply Z;apply aR;refine zk [2,3,6,7,8] ?_;refine aY (fun(k:Nat)=> [(8,.d (.v (.int .i64 (k:Int)))),(3,.d (.int (Er (l.take k)))),(5,.d (.any))]) [3,5,8,9,10,11,12,13,14,15] (fun(k:Nat)=>k<=l.length) (fun(k:Nat)=>l.length - k) (0) (by simp <;> rfl) ?_ ?_ ?_
 .simp [Er]
 .simp
 rintro k hk;simp only [aQ,aP];refine bC fun _ _ Z=>?_;simp(disch:=omega);apply Z;apply aE;refine zI ?_ ?_<;>intro c1<;>try simp at c1
 .apply kO;refine bC fun _ _ Z=>?_;simp(disch:=omega);and_intros<;>(try omega);apply Z;refine qF fun _ _ Z=>?_;refine zs 2 fun _ Y=>?_;simp(disch:=omega);apply Y;refine aF fun _ Y=>?_;simp(disch:=omega);refine cN (aN2 (Er (l.take k)) l[k] _) ?_;apply Y;simp(disch:=omega);apply Z;apply zB;refine zk [2,3,5,6,7,8] ?_;refine qF fun _ _ Z=>?_;simp(disch:=omega);and_intros<;>(try omega);apply Z;refine zq (k+1) ?_ ?_ ?_
  .omega
  .try dsimp only
   omega
  simp(disch:=omega)[aDm]
 obtain rfl:k=l.length:=by omega
 rw [fJ];apply zE;refine bC fun _ _ Z=>?_;simp(disch:=omega);apply Z;apply aC;simp [aG]
theorem aMe(v:VN)(l:List Int)(σ:List (List D))(hl:l.length<=99999)(hs: -9<=Er l/\Er l<=99999999):Ct prog 175 [lF v,.sl false (l.map D.int)] σ (fun r σ'=>r= .int (1+Er l)/\σ'=σ):=by
 refine zf func175 ?_;refine bC fun _ _ Z=>?_;simp;apply Z;refine bC fun _ _ Z=>?_;refine zs 1 fun _ Y=>?_;simp;apply Y;refine aF fun _ Y=>?_;simp;refine cN (aQ9 l _ hl) ?_;apply Y;simp;and_intros<;>(try omega);apply Z;apply aC;simp [aG]
theorem aJ0(v:VN)(σ:List (List D))(hc:cT v<=9999)(ih:∀k∈v.kids,aP7 k):Ct prog 174 [lF v,.clo (.func 175) [] []] σ (fun r σ'=>r= .int (cT v)/\σ'=σ):=by
 refine zf func174 ?_;have hkl:=lK v;refine zr ⟨[5,15],[],[],[],[]⟩ fun _ _ Z=>?_;simp(disch:=omega);apply Z;refine zr ⟨[5,15],[],[],[],[]⟩ fun _ _ Z=>?_;simp(disch:=omega);apply Z;apply aE;refine zr ⟨[5,15],[],[],[],[]⟩ fun _ _ Z=>?_;simp(disch:=omega);and_intros<;>(try omega);apply Z;apply aR;refine zk [1,2,4,5,9,10,11] ?_;refine aY (fun(j:Nat)=> [(11,.d (.v (.int .i64 (j:Int)))),(5,.d (.sl true ((szK v j).map D.int))),(7,.d (.any))]) [5,7,11,12,13,14,15,16,17,18,19,20,21] (fun(j:Nat)=>j<=v.kids.length) (fun(j:Nat)=>v.kids.length - j) (0) (by simp <;> rfl) ?_ ?_ ?_
 .simp [aVq]
 .simp
 rintro j hj;simp only [aQ,aP];have hzl:=aN8 v j;refine zr ⟨[5,15],[],[],[],[]⟩ fun _ _ Z=>?_;simp(disch:=omega);apply Z;apply aE;refine zI ?_ ?_<;>intro c1<;>try simp at c1
 .have hnx:=aI0 c1;apply kO;refine zr ⟨[5,15],[],[],[],[]⟩ fun _ _ Z=>?_;simp(disch:=omega);and_intros<;>(try omega);apply Z;refine zk [1,2,4,5,7,9,10,11] ?_;refine zt ⟨[5,15],[],[],[],[]⟩ fun _ _ Z=>?_;refine zs 3 fun _ Y=>?_;simp(disch:=omega);apply Y;refine aF fun _ Y=>?_;simp(disch:=omega);refine cN (ih v.kids[j] (cB _) _) ?_;apply Y;simp(disch:=omega);and_intros<;>(try omega);apply Z;apply zB;refine zk [1,2,4,5,7,9,10,11] ?_;refine zt ⟨[5,15],[],[],[],[]⟩ fun _ _ Z=>?_;simp(disch:=omega);and_intros<;>(try omega);apply Z;refine zq (j+1) ?_ ?_ ?_
  .omega
  .try dsimp only
   omega
  simp(disch:=omega)[hnx]
 obtain rfl:j=v.kids.length:=by omega
 have hall:=aAg hc;apply zE;refine zr ⟨[5,15],[],[],[],[]⟩ fun _ _ Z=>?_;refine zs 3 fun _ Y=>?_;simp(disch:=omega);apply Y;refine aF fun _ Y=>?_;simp(disch:=omega);refine cN (aMe v (szK v v.kids.length) _ (by omega) (by have:=aAg hc;omega)) ?_;apply Y;simp(disch:=omega);apply Z;apply aC;simp [aG,hall]
theorem aA6(v:VN)(hc:cT v<=9999):aP7 v:=fun σ=>aJ0 v σ hc fun k hk=>aA6 k (by have:=fV hk;omega)
termination_by cT v
decreasing_by
 have:=fV hk;omega
theorem aMu(v:VN)(σ:List (List D))(hc:cT v<=9999):Ct prog 92 [lF v] σ (fun r σ'=>r= .int (cT v)/\σ'=σ):=by
 refine zf func92 ?_;refine bC fun _ _ Z=>?_;simp;apply Z;refine bC fun _ _ Z=>?_;refine zs 1 fun _ Y=>?_;simp;apply Y;refine aF fun _ Y=>?_;simp;refine cN (aA6 v hc _) ?_;apply Y;simp;apply Z;apply aC;simp [aG]
def tkP(l:List PI)(k:Nat):List PI:=l.take k
theorem aVo(l:List PI):tkP l 0= []:=rfl
theorem aKq(l:List PI)(k:Nat)(h:k<l.length):tkP l (k+1)=tkP l k++ [l[k]]:=bR l k h
theorem aPo(l:List PI)(k:Nat):(tkP l k).length<=k:=by unfold tkP;rw [bF];omega
theorem aPx(l:List PI):tkP l l.length=l:=fJ
def tkA(l:List AT)(k:Nat):List AT:=l.take k
theorem aTu(l:List AT):tkA l 0= []:=rfl
theorem aMd(l:List AT)(k:Nat)(h:k<l.length):tkA l (k+1)=tkA l k++ [l[k]]:=bR l k h
theorem aO9(l:List AT)(k:Nat):(tkA l k).length<=k:=by unfold tkA;rw [bF];omega
theorem aNz(l:List AT):tkA l l.length=l:=fJ
def tkV(l:List VN)(k:Nat):List VN:=l.take k
theorem aQj(l:List VN):tkV l 0= []:=rfl
theorem aKi(l:List VN)(k:Nat)(h:k<l.length):tkV l (k+1)=tkV l k++ [l[k]]:=bR l k h
theorem aM7(l:List VN)(k:Nat):(tkV l k).length<=k:=by unfold tkV;rw [bF];omega
theorem aPu(l:List VN):tkV l l.length=l:=fJ
abbrev aU6(v:VN):Prop:=∀σ:List (List D),Ct prog 31 [lF v] σ (fun r σ'=>r=lF v/\σ'=σ)
@[simp] abbrev q41_1:Cfg:=⟨[2,3,12,17],[],[],[],[]⟩
theorem aM1(l:List PI)(σ:List (List D))(hl:l.length<=99999):Ct prog 94 [.sl false (l.map cL)] σ (fun r σ'=>r= .sl true (l.map cL)/\σ'=σ):=by
 refine zf func94 ?_;refine zr q41_1 fun _ _ Z=>?_;simp(disch:=omega);apply Z;refine zr q41_1 fun _ _ Z=>?_;simp(disch:=omega);apply Z;apply aE;refine zr q41_1 fun _ _ Z=>?_;simp(disch:=omega);and_intros<;>(try omega);apply Z;apply aR;refine zk [2,3,6,7,8] ?_;refine aY (fun(k:Nat)=> [(8,.d (.v (.int .i64 (k:Int)))),(3,.d (.sl true ((tkP l k).map cL))),(5,.d (.any))]) [3,5,8,9,10,11,12,13,14,15,16] (fun(k:Nat)=>k<=l.length) (fun(k:Nat)=>l.length - k) (0) (by simp <;> rfl) ?_ ?_ ?_
 .simp [aVo]
 .simp
 rintro k hk;simp only [aQ,aP];have htl:=aPo l k;refine zr q41_1 fun _ _ Z=>?_;simp(disch:=omega);apply Z;apply aE;refine zI ?_ ?_<;>intro c1<;>try simp at c1
 .apply kO;refine zr q41_1 fun _ _ Z=>?_;simp(disch:=omega);and_intros<;>(try omega);apply Z;refine zt q41_1 fun _ _ Z=>?_;simp(disch:=omega);and_intros<;>(try omega);apply Z;apply zB;refine zk [2,3,5,6,7,8] ?_;refine zt q41_1 fun _ _ Z=>?_;simp(disch:=omega);and_intros<;>(try omega);apply Z;refine zq (k+1) ?_ ?_ ?_
  .omega
  .try dsimp only
   omega
  simp(disch:=omega)[aKq]
 obtain rfl:k=l.length:=by omega
 rw [aPx];apply zE;refine zr q41_1 fun _ _ Z=>?_;simp(disch:=omega);apply Z;apply aC;simp [aG]
@[simp] abbrev q41_2:Cfg:=⟨[34,48],[],[3],[],[]⟩
theorem aKt(v:VN)(σ:List (List D))(h:VSz v)(ih:∀k∈v.kids,aU6 k):Ct prog 31 [lF v] σ (fun r σ'=>(r.plain=true/\r.strip=lF v)/\∃J,σ'=σ++J):=by
 refine zf func31 ?_;obtain⟨h1,h2,h3,h4,h5⟩:=h;refine zr q41_2 fun _ _ Z=>?_;simp(disch:=omega)[aK,aH];apply Z;refine zd q41_2 [.op {},.op {rL:=true},.op {},.op {rL:=true},.op {},.op {rL:=true},.op {},.op {rL:=true},.op {},.op {},.op {rL:=true},.op {},.op {},.op {rL:=true},.pure,.op {},.op {rL:=true},.op {},.op {rO:=true,wO:=true},.op {rO:=true,wO:=true}] fun all hall _ Z=>?_;refine nI 8 fun _ Y=>?_;simp(disch:=omega)[aK,aH];apply Y;refine nI 6 fun _ Y=>?_;simp(disch:=omega)[aK,aH];and_intros<;>(try omega);apply Y;refine cH fun _ Y=>?_;simp(disch:=omega)[aK,aH];refine At (fun _=>(aM1 v.styles _ (by omega))) ?_;apply Y;simp(disch:=omega)[aK,aH];and_intros<;>(try omega);apply Z;apply aE;refine zk [1,2,3] ?_;refine zr q41_2 fun _ _ Z=>?_;simp(disch:=omega)[aK,aH];and_intros<;>(try omega);apply Z;apply aR;refine zk [1,2,3,27,28,29] ?_;refine oB (fun(k:Nat)=> [(29,.d (.v (.int .i64 (k:Int))))]) (fun(k:Nat)=> []) (fun(k:Nat)=> [(σ.length, [D.int v.kind,D.str v.tag,D.str v.key,D.str v.text,.sl false (v.classes.map D.str),.sl true ((tkA v.attrs k).map cZ),.sl false (v.styles.map cL),D.int v.opts.enter,D.int v.opts.leave,D.int v.opts.move,D.int v.opts.mode,D.bool v.opts.appear,D.bool v.opts.moves,.sl true ((tkV v.kids 0).map rC)])]) [5,29,30,31,32,33,34,35,36,37,38,39] (fun(k:Nat)=>k<=v.attrs.length) (fun(k:Nat)=>v.attrs.length - k) (0) (by simp <;> rfl) ?_ (by simp) (by simp [aK,aTu,aQj]) ?_ ?_
 .simp
 .simp
 rintro k hk;simp only [aQ,aP,oU,mT,jE,iR];have htl:=aO9 v.attrs k;refine zr q41_2 fun _ _ Z=>?_;simp(disch:=omega)[aK,aH];apply Z;apply aE;refine zI ?_ ?_<;>intro c1<;>try simp at c1
 .apply kO;refine zr q41_2 fun _ _ Z=>?_;simp(disch:=omega)[aK,aH];and_intros<;>(try omega);apply Z;refine zt q41_2 fun _ _ Z=>?_;simp(disch:=omega)[aK,aH];and_intros<;>(try omega);apply Z;apply zB;refine zk [1,2,3,27,28,29] ?_;refine zt q41_2 fun _ _ Z=>?_;simp(disch:=omega)[aK,aH];and_intros<;>(try omega);apply Z;refine fP (k+1) ?_ ?_ (eG rfl ?_ (by simp) (by simp [aMd, *]))
  .omega
  .try dsimp only
   omega
  simp(disch:=omega)[aK,aH]
 obtain rfl:k=v.attrs.length:=by omega
 apply zE;apply aE;refine zr q41_2 fun _ _ Z=>?_;simp(disch:=omega)[aK,aH];and_intros<;>(try omega);apply Z;apply aR;refine zk [2,3,41,42,43] ?_;refine oB (fun(j:Nat)=> [(43,.d (.v (.int .i64 (j:Int))))]) (fun(j:Nat)=> []) (fun(j:Nat)=> [(σ.length, [D.int v.kind,D.str v.tag,D.str v.key,D.str v.text,.sl false (v.classes.map D.str),.sl true ((tkA v.attrs v.attrs.length).map cZ),.sl false (v.styles.map cL),D.int v.opts.enter,D.int v.opts.leave,D.int v.opts.move,D.int v.opts.mode,D.bool v.opts.appear,D.bool v.opts.moves,.sl true ((tkV v.kids j).map rC)])]) [7,43,44,45,46,47,48,49,50,51,52,53,54] (fun(j:Nat)=>j<=v.kids.length) (fun(j:Nat)=>v.kids.length - j) (0) (by simp <;> rfl) ?_ (by simp) (by simp [aK,aQj]) ?_ ?_
 .simp
 .simp
 rintro j hj;simp only [aQ,aP,oU,mT,jE,iR];have htl2:=aM7 v.kids j;refine zr q41_2 fun _ _ Z=>?_;simp(disch:=omega)[aK,aH];apply Z;apply aE;refine zI ?_ ?_<;>intro c2<;>try simp at c2
 .apply kO;refine zr q41_2 fun _ _ Z=>?_;simp(disch:=omega)[aK,aH];and_intros<;>(try omega);apply Z;refine ze q41_2 [.op {},.op {rO:=true,wO:=true},.op {rL:=true},.pure,.op {},.op {},.op {},.op {rO:=true,wO:=true}] fun all hall _ Z=>?_;refine nI 3 fun _ Y=>?_;simp(disch:=omega)[aK,aH];apply Y;refine cH fun _ Y=>?_;simp(disch:=omega)[aK,aH];refine At (fun _=>(ih v.kids[j] (cB _) _)) ?_;apply Y;simp(disch:=omega)[aK,aH];and_intros<;>(try omega);apply Z;apply zB;refine zk [2,3,41,42,43] ?_;refine zt q41_2 fun _ _ Z=>?_;simp(disch:=omega)[aK,aH];and_intros<;>(try omega);apply Z;refine fP (j+1) ?_ ?_ (eG rfl ?_ (by simp) (by simp [aKi, *]))
  .omega
  .try dsimp only
   omega
  simp(disch:=omega)[aK,aH]
 obtain rfl:j=v.kids.length:=by omega
 rw [aNz,aPu];apply zE;refine zr q41_2 fun _ _ Z=>?_;simp(disch:=omega)[aK,aH];apply Z;apply aC;simp [aG]
theorem aBg(v:VN)(h:VG v)(hc:cT v<=9999):aU6 v:=fun σ=>
 have h1:Ct prog 31 [lF v] σ (fun r σ'=>r=lF v/\∃J,σ'=σ++J):=(aKt v σ (h.sz hc) fun k hk=>aBg k (h.k k hk) (by have:=fV hk;omega)).strip fun r σ' h=>⟨h.1.1,h.1.2,h.2⟩
 h1.trim fun r σ' ⟨hr,J,hs⟩=>⟨σ,J,hs,rfl,by rw [hr];exact aMi _ _,fun n cs h=> .inl h,hr,rfl⟩
termination_by cT v
decreasing_by
 have:=fV hk;omega
end Go.Proofs.YtbgfljpnhhdkoaaGreat
