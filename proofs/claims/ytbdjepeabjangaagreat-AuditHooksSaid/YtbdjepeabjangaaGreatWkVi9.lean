import Derived.Test.YtbdjepeabjangaaGreatWkVi5
set_option linter.all false
set_option maxRecDepth 20000
set_option maxHeartbeats 8000000
open Go.Proofs.Tryz
namespace Go.Proofs.YtbdjepeabjangaaGreat
open Go Go.Vm
variable {v:VN}
def uF(v:VN)(k:Nat):Nat:=((v.kids.take k).map fB).sum
theorem Ni(v:VN):uF v 0=0:=rfl
theorem nT(v:VN)(k:Nat)(h:k<v.kids.length):uF v (k+1)=uF v k+fB v.kids[k]:=by
 unfold uF;rw [bM _ _ h,dC,tL];simp
theorem Ko(v:VN):uF v v.kids.length+1=fB v:=by unfold uF;rw [gC,kZ];omega
theorem Gr(v:VN)(k:Nat):uF v k+1<=fB v:=by
 rw [kZ];unfold uF;have:((v.kids.take k).map fB).sum+((v.kids.drop k).map fB).sum=(v.kids.map fB).sum:=by rw [<- tL,<- dC,gL]
 omega
abbrev aH3(v:VN):Prop:=∀σ:List (List D),Ct prog 12 [kM v] σ (fun r σ'=>r=D.int (fB v)/\σ'=σ)
theorem Wp(v:VN)(σ:List (List D))(hc:fB v<=9999)(ih:∀k∈v.kids,aH3 k):Ct prog 12 [kM v] σ (fun r σ'=>r= .int (fB v)/\σ'=σ):=by
 refine zf func12 ?_;have hkl:=Bt v;refine cL fun _ _ Z=>?_;simp(disch:=omega);apply Z;refine cL fun _ _ Z=>?_;simp(disch:=omega);apply Z;apply aE;refine cL fun _ _ Z=>?_;simp(disch:=omega);and_intros<;>(try omega);apply Z;apply aQ;refine zk [2,3,7,8,9] ?_;refine bK (fun(j:Nat)=> [(9,.d (.v (.int .i64 (j:Int)))),(3,.d (.v (.int .i64 ((1+uF v j):Int))))]) [3,5,9,10,11,12,13,14,15,16,17] (fun(j:Nat)=>j<=v.kids.length) (fun(j:Nat)=>v.kids.length - j) (0) (by simp <;> rfl) ?_ ?_ ?_
 .simp [Ni]
 .simp
 rintro j hj;simp only [aO,aK];have hzl:=Gr v j;refine cL fun _ _ Z=>?_;simp(disch:=omega);apply Z;apply aE;refine zI ?_ ?_<;>intro c1<;>try simp at c1
 .have hzk:=Gr v (j+1);rw [nT v j c1] at hzk;have hnx:uF v (j+1)=uF v j+fB v.kids[j]:=nT v j c1;apply mT;refine cL fun _ _ Z=>?_;simp(disch:=omega);and_intros<;>(try omega);apply Z;refine Dd fun _ _ Z=>?_;refine zs 2 fun _ Y=>?_;simp(disch:=omega);apply Y;refine aD fun _ Y=>?_;simp(disch:=omega);refine eH (ih v.kids[j] (cR _) _) ?_;apply Y;simp(disch:=omega);and_intros<;>(try omega);apply Z;apply zB;refine zk [2,3,7,8,9] ?_;refine Dd fun _ _ Z=>?_;simp(disch:=omega);and_intros<;>(try omega);apply Z;refine zq (j+1) ?_ ?_ ?_
  .omega
  .try dsimp only
   omega
  simp(disch:=omega)[hnx,Int.natCast_add,Int.add_assoc]
 obtain rfl:j=v.kids.length:=by omega
 have hall:=Ko v;apply zE;refine cL fun _ _ Z=>?_;simp(disch:=omega);apply Z;apply aC;simp [aT];omega
theorem Cw(v:VN)(hc:fB v<=9999):aH3 v:=fun σ=>Wp v σ hc fun k hk=>Cw k (by have:=iL hk;omega)
termination_by fB v
decreasing_by
 have:=iL hk;omega
def tkP(l:List PI)(k:Nat):List PI:=l.take k
theorem Rj(l:List PI):tkP l 0= []:=rfl
theorem Cv(l:List PI)(k:Nat)(h:k<l.length):tkP l (k+1)=tkP l k++ [l[k]]:=bM l k h
theorem Ho(l:List PI)(k:Nat):(tkP l k).length<=k:=by unfold tkP;rw [bB];omega
theorem Gs(l:List PI):tkP l l.length=l:=gC
def tkA(l:List AT)(k:Nat):List AT:=l.take k
theorem aH5(l:List AT):tkA l 0= []:=rfl
theorem Jf(l:List AT)(k:Nat)(h:k<l.length):tkA l (k+1)=tkA l k++ [l[k]]:=bM l k h
theorem Qs(l:List AT)(k:Nat):(tkA l k).length<=k:=by unfold tkA;rw [bB];omega
theorem Qg(l:List AT):tkA l l.length=l:=gC
def tkV(l:List VN)(k:Nat):List VN:=l.take k
theorem aHy(l:List VN):tkV l 0= []:=rfl
theorem aD5(l:List VN)(k:Nat)(h:k<l.length):tkV l (k+1)=tkV l k++ [l[k]]:=bM l k h
theorem aGt(l:List VN)(k:Nat):(tkV l k).length<=k:=by unfold tkV;rw [bB];omega
theorem aGg(l:List VN):tkV l l.length=l:=gC
abbrev aK4(v:VN):Prop:=∀σ:List (List D),Ct prog 18 [kM v] σ (fun r σ'=>r=kM v/\σ'=σ)
@[simp] abbrev q46_1:Cfg:=⟨[2,3,12,17],[],[],[],[]⟩
theorem aGy(l:List PI)(σ:List (List D))(hl:l.length<=99999):Ct prog 53 [.sl false (l.map bV)] σ (fun r σ'=>r= .sl true (l.map bV)/\σ'=σ):=by
 refine zf func53 ?_;refine zr q46_1 fun _ _ Z=>?_;simp(disch:=omega);apply Z;refine zr q46_1 fun _ _ Z=>?_;simp(disch:=omega);apply Z;apply aE;refine zr q46_1 fun _ _ Z=>?_;simp(disch:=omega);and_intros<;>(try omega);apply Z;apply aQ;refine zk [2,3,6,7,8] ?_;refine bK (fun(k:Nat)=> [(8,.d (.v (.int .i64 (k:Int)))),(3,.d (.sl true ((tkP l k).map bV))),(5,.d (.any))]) [3,5,8,9,10,11,12,13,14,15,16] (fun(k:Nat)=>k<=l.length) (fun(k:Nat)=>l.length - k) (0) (by simp <;> rfl) ?_ ?_ ?_
 .simp [Rj]
 .simp
 rintro k hk;simp only [aO,aK];have htl:=Ho l k;refine zr q46_1 fun _ _ Z=>?_;simp(disch:=omega);apply Z;apply aE;refine zI ?_ ?_<;>intro c1<;>try simp at c1
 .apply mT;refine zr q46_1 fun _ _ Z=>?_;simp(disch:=omega);and_intros<;>(try omega);apply Z;refine zt q46_1 fun _ _ Z=>?_;simp(disch:=omega);and_intros<;>(try omega);apply Z;apply zB;refine zk [2,3,5,6,7,8] ?_;refine zt q46_1 fun _ _ Z=>?_;simp(disch:=omega);and_intros<;>(try omega);apply Z;refine zq (k+1) ?_ ?_ ?_
  .omega
  .try dsimp only
   omega
  simp(disch:=omega)[Cv]
 obtain rfl:k=l.length:=by omega
 rw [Gs];apply zE;refine zr q46_1 fun _ _ Z=>?_;simp(disch:=omega);apply Z;apply aC;simp [aT]
@[simp] abbrev q46_2:Cfg:=⟨[34,48],[],[3],[],[]⟩
theorem aC1(v:VN)(σ:List (List D))(h:VSz v)(ih:∀k∈v.kids,aK4 k):Ct prog 18 [kM v] σ (fun r σ'=>(r.plain=true/\r.strip=kM v)/\∃J,σ'=σ++J):=by
 refine zf func18 ?_;obtain⟨h1,h2,h3,h4,h5⟩:=h;refine zr q46_2 fun _ _ Z=>?_;simp(disch:=omega)[aB,aA];apply Z;refine zd q46_2 [.op {},.op {rL:=true},.op {},.op {rL:=true},.op {},.op {rL:=true},.op {},.op {rL:=true},.op {},.op {},.op {rL:=true},.op {},.op {},.op {rL:=true},.pure,.op {},.op {rL:=true},.op {},.op {rO:=true,wO:=true},.op {rO:=true,wO:=true}] fun all hall _ Z=>?_;refine kY 8 fun _ Y=>?_;simp(disch:=omega)[aB,aA];apply Y;refine kY 6 fun _ Y=>?_;simp(disch:=omega)[aB,aA];and_intros<;>(try omega);apply Y;refine bJ fun _ Y=>?_;simp(disch:=omega)[aB,aA];refine rG (fun _=>(aGy v.styles _ (by omega))) ?_;apply Y;simp(disch:=omega)[aB,aA];and_intros<;>(try omega);apply Z;apply aE;refine zk [1,2,3] ?_;refine zr q46_2 fun _ _ Z=>?_;simp(disch:=omega)[aB,aA];and_intros<;>(try omega);apply Z;apply aQ;refine zk [1,2,3,27,28,29] ?_;refine fP (fun(k:Nat)=> [(29,.d (.v (.int .i64 (k:Int))))]) (fun(k:Nat)=> []) (fun(k:Nat)=> [(σ.length, [D.int v.kind,D.str v.tag,D.str v.key,D.str v.text,.sl false (v.classes.map D.str),.sl true ((tkA v.attrs k).map cD),.sl false (v.styles.map bV),D.int v.opts.enter,D.int v.opts.leave,D.int v.opts.move,D.int v.opts.mode,D.bool v.opts.appear,D.bool v.opts.moves,.sl true ((tkV v.kids 0).map kJ)])]) [5,29,30,31,32,33,34,35,36,37,38,39] (fun(k:Nat)=>k<=v.attrs.length) (fun(k:Nat)=>v.attrs.length - k) (0) (by simp <;> rfl) ?_ (by simp) (by simp [aB,aH5,aHy]) ?_ ?_
 .simp
 .simp
 rintro k hk;simp only [aO,aK,eM,dS,bZ,cN];have htl:=Qs v.attrs k;refine zr q46_2 fun _ _ Z=>?_;simp(disch:=omega)[aB,aA];apply Z;apply aE;refine zI ?_ ?_<;>intro c1<;>try simp at c1
 .apply mT;refine zr q46_2 fun _ _ Z=>?_;simp(disch:=omega)[aB,aA];and_intros<;>(try omega);apply Z;refine zt q46_2 fun _ _ Z=>?_;simp(disch:=omega)[aB,aA];and_intros<;>(try omega);apply Z;apply zB;refine zk [1,2,3,27,28,29] ?_;refine zt q46_2 fun _ _ Z=>?_;simp(disch:=omega)[aB,aA];and_intros<;>(try omega);apply Z;refine eL (k+1) ?_ ?_ (bT rfl ?_ (by simp) (by simp [Jf, *]))
  .omega
  .try dsimp only
   omega
  simp(disch:=omega)[aB,aA]
 obtain rfl:k=v.attrs.length:=by omega
 apply zE;apply aE;refine zr q46_2 fun _ _ Z=>?_;simp(disch:=omega)[aB,aA];and_intros<;>(try omega);apply Z;apply aQ;refine zk [2,3,41,42,43] ?_;refine fP (fun(j:Nat)=> [(43,.d (.v (.int .i64 (j:Int))))]) (fun(j:Nat)=> []) (fun(j:Nat)=> [(σ.length, [D.int v.kind,D.str v.tag,D.str v.key,D.str v.text,.sl false (v.classes.map D.str),.sl true ((tkA v.attrs v.attrs.length).map cD),.sl false (v.styles.map bV),D.int v.opts.enter,D.int v.opts.leave,D.int v.opts.move,D.int v.opts.mode,D.bool v.opts.appear,D.bool v.opts.moves,.sl true ((tkV v.kids j).map kJ)])]) [7,43,44,45,46,47,48,49,50,51,52,53,54] (fun(j:Nat)=>j<=v.kids.length) (fun(j:Nat)=>v.kids.length - j) (0) (by simp <;> rfl) ?_ (by simp) (by simp [aB,aHy]) ?_ ?_
 .simp
 .simp
 rintro j hj;simp only [aO,aK,eM,dS,bZ,cN];have htl2:=aGt v.kids j;refine zr q46_2 fun _ _ Z=>?_;simp(disch:=omega)[aB,aA];apply Z;apply aE;refine zI ?_ ?_<;>intro c2<;>try simp at c2
 .apply mT;refine zr q46_2 fun _ _ Z=>?_;simp(disch:=omega)[aB,aA];and_intros<;>(try omega);apply Z;refine ze q46_2 [.op {},.op {rO:=true,wO:=true},.op {rL:=true},.pure,.op {},.op {},.op {},.op {rO:=true,wO:=true}] fun all hall _ Z=>?_;refine kY 3 fun _ Y=>?_;simp(disch:=omega)[aB,aA];apply Y;refine bJ fun _ Y=>?_;simp(disch:=omega)[aB,aA];refine rG (fun _=>(ih v.kids[j] (cR _) _)) ?_;apply Y;simp(disch:=omega)[aB,aA];and_intros<;>(try omega);apply Z;apply zB;refine zk [2,3,41,42,43] ?_;refine zt q46_2 fun _ _ Z=>?_;simp(disch:=omega)[aB,aA];and_intros<;>(try omega);apply Z;refine eL (j+1) ?_ ?_ (bT rfl ?_ (by simp) (by simp [aD5, *]))
  .omega
  .try dsimp only
   omega
  simp(disch:=omega)[aB,aA]
 obtain rfl:j=v.kids.length:=by omega
 rw [Qg,aGg];apply zE;refine zr q46_2 fun _ _ Z=>?_;simp(disch:=omega)[aB,aA];apply Z;apply aC;simp [aT]
theorem Rq(v:VN)(h:VG v)(hc:fB v<=9999):aK4 v:=fun σ=>
 have h1:Ct prog 18 [kM v] σ (fun r σ'=>r=kM v/\∃J,σ'=σ++J):=(aC1 v σ (h.sz hc) fun k hk=>Rq k (h.k k hk) (by have:=iL hk;omega)).strip fun r σ' h=>⟨h.1.1,h.1.2,h.2⟩
 h1.trim fun r σ' ⟨hr,J,hs⟩=>⟨σ,J,hs,rfl,by rw [hr];exact Yi _ _,fun n cs h=> .inl h,hr,rfl⟩
termination_by fB v
decreasing_by
 have:=iL hk;omega
structure TN where
 ID:Int
 kind:Int
 tag:ByteArray
 text:ByteArray
 classes:(List ByteArray)
 attrs:(List AT)
 styles:(List PI)
 kids:(List TN)
def mQ(s:TN):D:= .agg [.v (.int .i64 s.ID),.v (.int .i64 s.kind),.v (.string s.tag),.v (.string s.text),.sl false (s.classes.map D.str),.sl false (s.attrs.map cD),.sl false (s.styles.map bV),.sl false (s.kids.attach.map fun k=>mQ k.1)]
termination_by SizeOf.sizeOf s
decreasing_by
 have h:=iC k.2;cases s;simp at h |-;omega
@[simp] abbrev iQ(s:TN):D:= .agg [.v (.int .i64 s.ID),.v (.int .i64 s.kind),.v (.string s.tag),.v (.string s.text),.sl false (s.classes.map D.str),.sl false (s.attrs.map cD),.sl false (s.styles.map bV),.sl false (s.kids.map mQ)]
@[simp] abbrev aQm(s:TN):D:= .agg [.v (.int .i64 s.ID),.v (.int .i64 s.kind),.v (.string s.tag),.v (.string s.text),.sl true (s.classes.map D.str),.sl true (s.attrs.map cD),.sl true (s.styles.map bV),.sl true (s.kids.map mQ)]
@[simp] theorem aEj(s:TN):mQ s=iQ s:=by rw [mQ];simp
theorem Ju(N:Nat)(t:TN):Sc N (iQ t):=Sc.agg fun d hd=>by
 simp only [fQ,kA,kD] at hd;rcases hd with rfl | rfl | rfl | rfl | rfl | rfl | rfl | rfl
 .exact Sc.v _
 .exact Sc.v _
 .exact Sc.v _
 .exact Sc.v _
 .exact Sc.sl (Sc.map fun a=>Gv _ a)
 .exact Sc.sl (Sc.map fun a=>Hz _ a)
 .exact Sc.sl (Sc.map fun a=>Gp _ a)
 refine Sc.sl fun d hd=>?_;obtain⟨k,hk,e⟩:=bY.1 hd;rw [<- e,aEj];exact Ju N k
termination_by SizeOf.sizeOf t
decreasing_by
 have h:=iC hk;cases t;simp at h |-;omega
def jJ(t:TN):Nat:=1+(t.kids.attach.map fun k=>jJ k.1).sum
termination_by SizeOf.sizeOf t
decreasing_by
 have h:=iC k.2;cases t;simp at h |-;omega
theorem tQ(t:TN):jJ t=1+(t.kids.map jJ).sum:=by rw [jJ];simp
theorem jR {v k:TN} (h:k∈v.kids):jJ k+1<=jJ v:=by
 rw [tQ v];have:∀l:List TN,k∈l->jJ k<=(l.map jJ).sum:=by
  intro l;induction l with
  | nil=>intro h;cases h
  | cons a l ih=>
   intro h;simp only [fM,nR];rcases fQ.1 h with rfl | h
   .omega
   have:=ih h;omega
 have:=this v.kids h;omega
theorem Kg(v:TN):v.kids.length+1<=jJ v:=by
 rw [tQ v];have:∀l:List TN,l.length<=(l.map jJ).sum:=by
  intro l;induction l with
  | nil=>simp
  | cons a l ih=>
   have:=tQ a;simp only [fM,nR,bU];omega
 have:=this v.kids;omega
abbrev TSz(t:TN):Prop:=t.classes.length<=9999/\t.attrs.length<=9999/\t.styles.length<=9999/\t.kids.length<=9999
inductive TB:TN->Prop
 | mk (t:TN) (h:TSz t) (hk:∀k∈t.kids,TB k):TB t
theorem TB.s {t:TN} (h:TB t):TSz t:=by cases h;assumption
theorem TB.k {t:TN} (h:TB t):∀k∈t.kids,TB k:=by cases h;assumption
def tkT(l:List TN)(k:Nat):List TN:=l.take k
theorem aD8(l:List TN):tkT l 0= []:=rfl
theorem aDo(l:List TN)(k:Nat)(h:k<l.length):tkT l (k+1)=tkT l k++ [l[k]]:=bM l k h
theorem aE2(l:List TN)(k:Nat):(tkT l k).length<=k:=by unfold tkT;rw [bB];omega
theorem aGz(l:List TN):tkT l l.length=l:=gC
abbrev aHq(t:TN):Prop:=∀σ:List (List D),Ct prog 19 [iQ t] σ (fun r σ'=>r=iQ t/\σ'=σ)
@[simp] abbrev q46_3:Cfg:=⟨[31,45,59],[],[3],[],[]⟩
theorem aB4(t:TN)(σ:List (List D))(h:TSz t)(ih:∀k∈t.kids,aHq k):Ct prog 19 [iQ t] σ (fun r σ'=>(r.plain=true/\r.strip=iQ t)/\∃J,σ'=σ++J):=by
 refine zf func19 ?_;obtain⟨h1,h2,h3,h4⟩:=h;refine zr q46_3 fun _ _ Z=>?_;simp(disch:=omega)[aB,aA];apply Z;refine zd q46_3 [.op {},.op {rL:=true},.op {},.op {rL:=true},.op {},.op {rL:=true},.op {},.op {rL:=true},.op {},.op {},.op {rL:=true},.op {},.op {},.op {rO:=true,wO:=true},.op {rO:=true,wO:=true}] fun all hall _ Z=>?_;refine kY 8 fun _ Y=>?_;simp(disch:=omega)[aB,aA];apply Y;simp(disch:=omega)[aB,aA];and_intros<;>(try omega);apply Z;apply aE;refine zk [1,2,3] ?_;refine zr q46_3 fun _ _ Z=>?_;simp(disch:=omega)[aB,aA];and_intros<;>(try omega);apply Z;apply aQ;refine zk [1,2,3,24,25,26] ?_;refine fP (fun(k:Nat)=> [(26,.d (.v (.int .i64 (k:Int))))]) (fun(k:Nat)=> []) (fun(k:Nat)=> [(σ.length, [D.int t.ID,D.int t.kind,D.str t.tag,D.str t.text,.sl false (t.classes.map D.str),.sl true ((tkA t.attrs k).map cD),.sl true ((tkP t.styles 0).map bV),.sl true ((tkT t.kids 0).map mQ)])]) [5,26,27,28,29,30,31,32,33,34,35,36] (fun(k:Nat)=>k<=t.attrs.length) (fun(k:Nat)=>t.attrs.length - k) (0) (by simp <;> rfl) ?_ (by simp) (by simp [aB,aH5,Rj,aD8]) ?_ ?_
 .simp
 .simp
 rintro k hk;simp only [aO,aK,eM,dS,bZ,cN];have htl:=Qs t.attrs k;refine zr q46_3 fun _ _ Z=>?_;simp(disch:=omega)[aB,aA];apply Z;apply aE;refine zI ?_ ?_<;>intro c1<;>try simp at c1
 .apply mT;refine zr q46_3 fun _ _ Z=>?_;simp(disch:=omega)[aB,aA];and_intros<;>(try omega);apply Z;refine zt q46_3 fun _ _ Z=>?_;simp(disch:=omega)[aB,aA];and_intros<;>(try omega);apply Z;apply zB;refine zk [1,2,3,24,25,26] ?_;refine zt q46_3 fun _ _ Z=>?_;simp(disch:=omega)[aB,aA];and_intros<;>(try omega);apply Z;refine eL (k+1) ?_ ?_ (bT rfl ?_ (by simp) (by simp [Jf, *]))
  .omega
  .try dsimp only
   omega
  simp(disch:=omega)[aB,aA]
 obtain rfl:k=t.attrs.length:=by omega
 apply zE;apply aE;refine zr q46_3 fun _ _ Z=>?_;simp(disch:=omega)[aB,aA];and_intros<;>(try omega);apply Z;apply aQ;refine zk [1,2,3,38,39,40] ?_;refine fP (fun(i:Nat)=> [(40,.d (.v (.int .i64 (i:Int))))]) (fun(i:Nat)=> []) (fun(i:Nat)=> [(σ.length, [D.int t.ID,D.int t.kind,D.str t.tag,D.str t.text,.sl false (t.classes.map D.str),.sl true ((tkA t.attrs t.attrs.length).map cD),.sl true ((tkP t.styles i).map bV),.sl true ((tkT t.kids 0).map mQ)])]) [7,40,41,42,43,44,45,46,47,48,49,50] (fun(i:Nat)=>i<=t.styles.length) (fun(i:Nat)=>t.styles.length - i) (0) (by simp <;> rfl) ?_ (by simp) (by simp [aB,Rj,aD8]) ?_ ?_
 .simp
 .simp
 rintro i hi;simp only [aO,aK,eM,dS,bZ,cN];have htl1:=Ho t.styles i;refine zr q46_3 fun _ _ Z=>?_;simp(disch:=omega)[aB,aA];apply Z;apply aE;refine zI ?_ ?_<;>intro c2<;>try simp at c2
 .apply mT;refine zr q46_3 fun _ _ Z=>?_;simp(disch:=omega)[aB,aA];and_intros<;>(try omega);apply Z;refine zt q46_3 fun _ _ Z=>?_;simp(disch:=omega)[aB,aA];and_intros<;>(try omega);apply Z;apply zB;refine zk [1,2,3,38,39,40] ?_;refine zt q46_3 fun _ _ Z=>?_;simp(disch:=omega)[aB,aA];and_intros<;>(try omega);apply Z;refine eL (i+1) ?_ ?_ (bT rfl ?_ (by simp) (by simp [Cv, *]))
  .omega
  .try dsimp only
   omega
  simp(disch:=omega)[aB,aA]
 obtain rfl:i=t.styles.length:=by omega
 apply zE;apply aE;refine zr q46_3 fun _ _ Z=>?_;simp(disch:=omega)[aB,aA];and_intros<;>(try omega);apply Z;apply aQ;refine zk [2,3,52,53,54] ?_;refine fP (fun(j:Nat)=> [(54,.d (.v (.int .i64 (j:Int))))]) (fun(j:Nat)=> []) (fun(j:Nat)=> [(σ.length, [D.int t.ID,D.int t.kind,D.str t.tag,D.str t.text,.sl false (t.classes.map D.str),.sl true ((tkA t.attrs t.attrs.length).map cD),.sl true ((tkP t.styles t.styles.length).map bV),.sl true ((tkT t.kids j).map mQ)])]) [9,54,55,56,57,58,59,60,61,62,63,64,65] (fun(j:Nat)=>j<=t.kids.length) (fun(j:Nat)=>t.kids.length - j) (0) (by simp <;> rfl) ?_ (by simp) (by simp [aB,aD8]) ?_ ?_
 .simp
 .simp
 rintro j hj;simp only [aO,aK,eM,dS,bZ,cN];have htl2:=aE2 t.kids j;refine zr q46_3 fun _ _ Z=>?_;simp(disch:=omega)[aB,aA];apply Z;apply aE;refine zI ?_ ?_<;>intro c3<;>try simp at c3
 .apply mT;refine zr q46_3 fun _ _ Z=>?_;simp(disch:=omega)[aB,aA];and_intros<;>(try omega);apply Z;refine ze q46_3 [.op {},.op {rO:=true,wO:=true},.op {rL:=true},.pure,.op {},.op {},.op {},.op {rO:=true,wO:=true}] fun all hall _ Z=>?_;refine kY 3 fun _ Y=>?_;simp(disch:=omega)[aB,aA];apply Y;refine bJ fun _ Y=>?_;simp(disch:=omega)[aB,aA];refine rG (fun _=>(ih t.kids[j] (cR _) _)) ?_;apply Y;simp(disch:=omega)[aB,aA];and_intros<;>(try omega);apply Z;apply zB;refine zk [2,3,52,53,54] ?_;refine zt q46_3 fun _ _ Z=>?_;simp(disch:=omega)[aB,aA];and_intros<;>(try omega);apply Z;refine eL (j+1) ?_ ?_ (bT rfl ?_ (by simp) (by simp [aDo, *]))
  .omega
  .try dsimp only
   omega
  simp(disch:=omega)[aB,aA]
 obtain rfl:j=t.kids.length:=by omega
 rw [Qg,Gs,aGz];apply zE;refine zr q46_3 fun _ _ Z=>?_;simp(disch:=omega)[aB,aA];apply Z;apply aC;simp [aT]
theorem Qq(t:TN)(h:TB t):aHq t:=fun σ=>
 have h1:Ct prog 19 [iQ t] σ (fun r σ'=>r=iQ t/\∃J,σ'=σ++J):=(aB4 t σ h.s fun k hk=>Qq k (h.k k hk)).strip fun r σ' h=>⟨h.1.1,h.1.2,h.2⟩
 h1.trim fun r σ' ⟨hr,J,hs⟩=>⟨σ,J,hs,rfl,by rw [hr];exact Ju _ _,fun n cs h=> .inl h,hr,rfl⟩
termination_by jJ t
decreasing_by
 have:=jR hk;omega
def Fh(v:VN):TN:=if v.kind=1 then⟨0,1,⟨#[]⟩,v.text, [], [], [], []⟩else⟨0,2,v.tag,⟨#[]⟩,v.classes,v.attrs,v.styles,v.kids.attach.map fun k=>Fh k.1⟩
termination_by SizeOf.sizeOf v
decreasing_by
 have h:=iC k.2;cases v;simp at h |-;omega
theorem Nw(v:VN):Fh v=if v.kind=1 then⟨0,1,⟨#[]⟩,v.text, [], [], [], []⟩else⟨0,2,v.tag,⟨#[]⟩,v.classes,v.attrs,v.styles,v.kids.map Fh⟩:=by
 rw [Fh];simp
def tkO(l:List VN)(k:Nat):List TN:=(l.take k).map Fh
theorem aK1(l:List VN):tkO l 0= []:=rfl
theorem aCh(l:List VN)(k:Nat)(h:k<l.length):tkO l (k+1)=tkO l k++ [Fh l[k]]:=by unfold tkO;rw [bM l k h,dC];rfl
theorem aFx(l:List VN)(k:Nat):(tkO l k).length<=k:=by unfold tkO;rw [cC,bB];omega
theorem aEt(l:List VN):tkO l l.length=l.map Fh:=by unfold tkO;rw [gC]
inductive VB:VN->Prop
 | mk (v:VN) (h:VSz v) (hk:∀k∈v.kids,VB k):VB v
theorem VB.s (h:VB v):VSz v:=by cases h;assumption
theorem VB.k (h:VB v):∀k∈v.kids,VB k:=by cases h;assumption
theorem VG.b:∀ {v:VN},VG v->fB v<=9999->VB v
 | v,h,hc=> .mk v (h.sz hc) fun k hk=>VG.b (h.k k hk) (by have:=iL hk;omega)
termination_by v=>fB v
decreasing_by
 have:=iL hk;omega
theorem wB(v:VN):v=txt v v.text:=by cases v;rfl
theorem aDv {o:List VN} {k x:VN} (h:x∈mI o k):∃y,(y∈o\/y=k)/\∃s,x=txt y s:=by
 unfold mI at h;have hq:x∈o++ [k]->∃y,(y∈o\/y=k)/\∃s,x=txt y s:=fun h=>by
  rcases dZ.1 h with h | h
  .exact⟨x,.inl h,x.text,wB x⟩
  exact⟨k,.inr rfl,k.text,by rw [iM.1 h];exact wB k⟩
 split at h
 .rename_i p hp;split at h
  .rcases Ft h with h | h
   .exact⟨x,.inl h,x.text,wB x⟩
   exact⟨p,.inl (List.mem_of_getLast? hp),_,h⟩
  exact hq h
 exact hq h
theorem Fa {l:List VN} {x:VN} (h:x∈kN l):∃y∈l,∃s,x=txt y s:=by
 have:∀(l o:List VN),x∈l.foldl mI o->∃y,(y∈o\/y∈l)/\∃s,x=txt y s:=by
  intro l;induction l with
  | nil=>intro o h;exact⟨x,.inl h,x.text,wB x⟩
  | cons a l ih =>
   intro o h;obtain⟨y,hy,s,e⟩:=ih _ h;rcases hy with hy | hy
   .obtain⟨z,hz,s2,e2⟩:=aDv hy;rcases hz with hz | rfl
    .exact⟨z,.inl hz,s,by rw [e,e2];rfl⟩
    exact⟨z,.inr List.mem_cons_self,s,by rw [e,e2];rfl⟩
   exact⟨y,.inr (List.mem_cons_of_mem _ hy),s,e⟩
 obtain⟨y,hy,h2⟩:=this l [] h;rcases hy with hy | hy
 .cases hy
 exact⟨y,hy,h2⟩
theorem VB.txt (h:VB v)(s:ByteArray):VB (txt v s):= .mk _ h.s h.k
theorem Pu:∀ {v:VN},VG v->fB v<=100->VB (gG v)
 | v, h, hc => by
  rw [oN];obtain⟨a,b,c,d, -⟩:=h.f;have hl:=Bt v;have ha:=Fs v.classes;have hb:=lZ nA v.attrs;have hcl:=lZ nP v.styles;have hm:(kN ((v.kids.map gG).filter lM)).length<=v.kids.length:=dJ (Us _) (dJ (gU _ _) (by simp));refine .mk _ ⟨by show(oD v.classes).length<=9999;omega,by show(oX nA v.attrs).length<=9999;omega,by show(oX nP v.styles).length<=9999;omega,dJ hm (by omega),fun k hk=>?_⟩ fun k hk=>?_
  .have hx:=Fj (l:=(v.kids.map gG).filter lM) (B:=70) (fun k hk=>by
    obtain⟨y,hy,rfl⟩:=bY.1 (iH.1 hk).1;rw [uW];exact(h.k y hy).f.2.2.2.1) _ (bD _) k (by rw [gC];exact hk)
   have h2:((v.kids.map gG).filter lM).length<=100:=dJ (gU _ _) (by simp;omega);have h3:((v.kids.map gG).filter lM).length * 70<=100 * 70:=eN _ h2;omega
  obtain⟨y,hy,s,rfl⟩:=Fa hk;obtain⟨z,hz,rfl⟩:=bY.1 (iH.1 hy).1;exact(Pu (h.k z hz) (by have:=iL hz;omega)).txt s
termination_by v=>fB v
decreasing_by
 have:=iL hz;omega
end Go.Proofs.YtbdjepeabjangaaGreat
