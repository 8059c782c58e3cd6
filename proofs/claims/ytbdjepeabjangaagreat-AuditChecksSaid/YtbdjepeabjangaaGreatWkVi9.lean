import Derived.Test.YtbdjepeabjangaaGreatWkVi5
set_option linter.all false
set_option maxRecDepth 20000
set_option maxHeartbeats 8000000
open Go.Proofs.Tryz
namespace Go.Proofs.YtbdjepeabjangaaGreat
open Go Go.Vm
variable {v:VN}
def Aa(v:VN)(k:Nat):Nat:=((v.kids.take k).map fG).sum
theorem aD8(v:VN):Aa v 0=0:=rfl
theorem vD(v:VN)(k:Nat)(h:k<v.kids.length):Aa v (k+1)=Aa v k+fG v.kids[k]:=by
 unfold Aa;rw [bB _ _ h,cX,vC];simp
theorem aEl(v:VN):Aa v v.kids.length+1=fG v:=by unfold Aa;rw [dY,nS];omega
theorem aJy(v:VN)(k:Nat):Aa v k+1<=fG v:=by
 rw [nS];unfold Aa;have:((v.kids.take k).map fG).sum+((v.kids.drop k).map fG).sum=(v.kids.map fG).sum:=by rw [<- vC,<- cX,fP]
 omega
def tkP(l:List PI)(k:Nat):List PI:=l.take k
theorem Wm(l:List PI):tkP l 0= []:=rfl
theorem Fe(l:List PI)(k:Nat)(h:k<l.length):tkP l (k+1)=tkP l k++ [l[k]]:=bB l k h
theorem Kn(l:List PI)(k:Nat):(tkP l k).length<=k:=by unfold tkP;rw [bF];omega
theorem Kf(l:List PI):tkP l l.length=l:=dY
def tkA(l:List AT)(k:Nat):List AT:=l.take k
theorem aL2(l:List AT):tkA l 0= []:=rfl
theorem Oa(l:List AT)(k:Nat)(h:k<l.length):tkA l (k+1)=tkA l k++ [l[k]]:=bB l k h
theorem Wi(l:List AT)(k:Nat):(tkA l k).length<=k:=by unfold tkA;rw [bF];omega
theorem Ve(l:List AT):tkA l l.length=l:=dY
def tkV(l:List VN)(k:Nat):List VN:=l.take k
theorem aLs(l:List VN):tkV l 0= []:=rfl
theorem aDd(l:List VN)(k:Nat)(h:k<l.length):tkV l (k+1)=tkV l k++ [l[k]]:=bB l k h
theorem aJq(l:List VN)(k:Nat):(tkV l k).length<=k:=by unfold tkV;rw [bF];omega
theorem aJs(l:List VN):tkV l l.length=l:=dY
abbrev aQc(v:VN):Prop:=∀σ:List (List D),Ct prog 18 [jN v] σ (fun r σ'=>r=jN v/\σ'=σ)
@[simp] abbrev q46_1:Cfg:=⟨[2,3,12,17],[],[],[],[]⟩
theorem aLa(l:List PI)(σ:List (List D))(hl:l.length<=99999):Ct prog 53 [.sl false (l.map bY)] σ (fun r σ'=>r= .sl true (l.map bY)/\σ'=σ):=by
 refine zf func53 ?_;refine zr q46_1 fun _ _ Z=>?_;simp(disch:=omega);apply Z;refine zr q46_1 fun _ _ Z=>?_;simp(disch:=omega);apply Z;apply aF;refine zr q46_1 fun _ _ Z=>?_;simp(disch:=omega);and_intros<;>(try omega);apply Z;apply aN;refine zk [2,3,6,7,8] ?_;refine bA (fun(k:Nat)=> [(8,.d (.v (.int .i64 (k:Int)))),(3,.d (.sl true ((tkP l k).map bY))),(5,.d (.any))]) [3,5,8,9,10,11,12,13,14,15,16] (fun(k:Nat)=>k<=l.length) (fun(k:Nat)=>l.length - k) (0) (by simp <;> rfl) ?_ ?_ ?_
 .simp [Wm]
 .simp
 rintro k hk;simp only [aM,aK];have htl:=Kn l k;refine zr q46_1 fun _ _ Z=>?_;simp(disch:=omega);apply Z;apply aF;refine zI ?_ ?_<;>intro c1<;>try simp at c1
 .apply kL;refine zr q46_1 fun _ _ Z=>?_;simp(disch:=omega);and_intros<;>(try omega);apply Z;refine zt q46_1 fun _ _ Z=>?_;simp(disch:=omega);and_intros<;>(try omega);apply Z;apply zB;refine zk [2,3,5,6,7,8] ?_;refine zt q46_1 fun _ _ Z=>?_;simp(disch:=omega);and_intros<;>(try omega);apply Z;refine zq (k+1) ?_ ?_ ?_
  .omega
  .try dsimp only
   omega
  simp(disch:=omega)[Fe]
 obtain rfl:k=l.length:=by omega
 rw [Kf];apply zE;refine zr q46_1 fun _ _ Z=>?_;simp(disch:=omega);apply Z;apply aE;simp [aP]
@[simp] abbrev q46_2:Cfg:=⟨[34,48],[],[3],[],[]⟩
theorem aCr(v:VN)(σ:List (List D))(h:VSz v)(ih:∀k∈v.kids,aQc k):Ct prog 18 [jN v] σ (fun r σ'=>(r.plain=true/\r.strip=jN v)/\∃J,σ'=σ++J):=by
 refine zf func18 ?_;obtain⟨h1,h2,h3,h4,h5⟩:=h;refine zr q46_2 fun _ _ Z=>?_;simp(disch:=omega)[aD,aA];apply Z;refine zd q46_2 [.op {},.op {rL:=true},.op {},.op {rL:=true},.op {},.op {rL:=true},.op {},.op {rL:=true},.op {},.op {},.op {rL:=true},.op {},.op {},.op {rL:=true},.pure,.op {},.op {rL:=true},.op {},.op {rO:=true,wO:=true},.op {rO:=true,wO:=true}] fun all hall _ Z=>?_;refine iK 8 fun _ Y=>?_;simp(disch:=omega)[aD,aA];apply Y;refine iK 6 fun _ Y=>?_;simp(disch:=omega)[aD,aA];and_intros<;>(try omega);apply Y;refine bJ fun _ Y=>?_;simp(disch:=omega)[aD,aA];refine pH (fun _=>(aLa v.styles _ (by omega))) ?_;apply Y;simp(disch:=omega)[aD,aA];and_intros<;>(try omega);apply Z;apply aF;refine zk [1,2,3] ?_;refine zr q46_2 fun _ _ Z=>?_;simp(disch:=omega)[aD,aA];and_intros<;>(try omega);apply Z;apply aN;refine zk [1,2,3,27,28,29] ?_;refine eO (fun(k:Nat)=> [(29,.d (.v (.int .i64 (k:Int))))]) (fun(k:Nat)=> []) (fun(k:Nat)=> [(σ.length, [D.int v.kind,D.str v.tag,D.str v.key,D.str v.text,.sl false (v.classes.map D.str),.sl true ((tkA v.attrs k).map cH),.sl false (v.styles.map bY),D.int v.opts.enter,D.int v.opts.leave,D.int v.opts.move,D.int v.opts.mode,D.bool v.opts.appear,D.bool v.opts.moves,.sl true ((tkV v.kids 0).map jO)])]) [5,29,30,31,32,33,34,35,36,37,38,39] (fun(k:Nat)=>k<=v.attrs.length) (fun(k:Nat)=>v.attrs.length - k) (0) (by simp <;> rfl) ?_ (by simp) (by simp [aD,aL2,aLs]) ?_ ?_
 .simp
 .simp
 rintro k hk;simp only [aM,aK,dD,cJ,bK,bN];have htl:=Wi v.attrs k;refine zr q46_2 fun _ _ Z=>?_;simp(disch:=omega)[aD,aA];apply Z;apply aF;refine zI ?_ ?_<;>intro c1<;>try simp at c1
 .apply kL;refine zr q46_2 fun _ _ Z=>?_;simp(disch:=omega)[aD,aA];and_intros<;>(try omega);apply Z;refine zt q46_2 fun _ _ Z=>?_;simp(disch:=omega)[aD,aA];and_intros<;>(try omega);apply Z;apply zB;refine zk [1,2,3,27,28,29] ?_;refine zt q46_2 fun _ _ Z=>?_;simp(disch:=omega)[aD,aA];and_intros<;>(try omega);apply Z;refine cQ (k+1) ?_ ?_ (aU rfl ?_ (by simp) (by simp [Oa, *]))
  .omega
  .try dsimp only
   omega
  simp(disch:=omega)[aD,aA]
 obtain rfl:k=v.attrs.length:=by omega
 apply zE;apply aF;refine zr q46_2 fun _ _ Z=>?_;simp(disch:=omega)[aD,aA];and_intros<;>(try omega);apply Z;apply aN;refine zk [2,3,41,42,43] ?_;refine eO (fun(j:Nat)=> [(43,.d (.v (.int .i64 (j:Int))))]) (fun(j:Nat)=> []) (fun(j:Nat)=> [(σ.length, [D.int v.kind,D.str v.tag,D.str v.key,D.str v.text,.sl false (v.classes.map D.str),.sl true ((tkA v.attrs v.attrs.length).map cH),.sl false (v.styles.map bY),D.int v.opts.enter,D.int v.opts.leave,D.int v.opts.move,D.int v.opts.mode,D.bool v.opts.appear,D.bool v.opts.moves,.sl true ((tkV v.kids j).map jO)])]) [7,43,44,45,46,47,48,49,50,51,52,53,54] (fun(j:Nat)=>j<=v.kids.length) (fun(j:Nat)=>v.kids.length - j) (0) (by simp <;> rfl) ?_ (by simp) (by simp [aD,aLs]) ?_ ?_
 .simp
 .simp
 rintro j hj;simp only [aM,aK,dD,cJ,bK,bN];have htl2:=aJq v.kids j;refine zr q46_2 fun _ _ Z=>?_;simp(disch:=omega)[aD,aA];apply Z;apply aF;refine zI ?_ ?_<;>intro c2<;>try simp at c2
 .apply kL;refine zr q46_2 fun _ _ Z=>?_;simp(disch:=omega)[aD,aA];and_intros<;>(try omega);apply Z;refine ze q46_2 [.op {},.op {rO:=true,wO:=true},.op {rL:=true},.pure,.op {},.op {},.op {},.op {rO:=true,wO:=true}] fun all hall _ Z=>?_;refine iK 3 fun _ Y=>?_;simp(disch:=omega)[aD,aA];apply Y;refine bJ fun _ Y=>?_;simp(disch:=omega)[aD,aA];refine pH (fun _=>(ih v.kids[j] (bS _) _)) ?_;apply Y;simp(disch:=omega)[aD,aA];and_intros<;>(try omega);apply Z;apply zB;refine zk [2,3,41,42,43] ?_;refine zt q46_2 fun _ _ Z=>?_;simp(disch:=omega)[aD,aA];and_intros<;>(try omega);apply Z;refine cQ (j+1) ?_ ?_ (aU rfl ?_ (by simp) (by simp [aDd, *]))
  .omega
  .try dsimp only
   omega
  simp(disch:=omega)[aD,aA]
 obtain rfl:j=v.kids.length:=by omega
 rw [Ve,aJs];apply zE;refine zr q46_2 fun _ _ Z=>?_;simp(disch:=omega)[aD,aA];apply Z;apply aE;simp [aP]
theorem Vo(v:VN)(h:VG v)(hc:fG v<=9999):aQc v:=fun σ=>
 have h1:Ct prog 18 [jN v] σ (fun r σ'=>r=jN v/\∃J,σ'=σ++J):=(aCr v σ (h.sz hc) fun k hk=>Vo k (h.k k hk) (by have:=iH hk;omega)).strip fun r σ' h=>⟨h.1.1,h.1.2,h.2⟩
 h1.trim fun r σ' ⟨hr,J,hs⟩=>⟨σ,J,hs,rfl,by rw [hr];exact Vt _ _,fun n cs h=> .inl h,hr,rfl⟩
termination_by fG v
decreasing_by
 have:=iH hk;omega
structure TN where
 ID:Int
 kind:Int
 tag:ByteArray
 text:ByteArray
 classes:(List ByteArray)
 attrs:(List AT)
 styles:(List PI)
 kids:(List TN)
def mK(s:TN):D:= .agg [.v (.int .i64 s.ID),.v (.int .i64 s.kind),.v (.string s.tag),.v (.string s.text),.sl false (s.classes.map D.str),.sl false (s.attrs.map cH),.sl false (s.styles.map bY),.sl false (s.kids.attach.map fun k=>mK k.1)]
termination_by SizeOf.sizeOf s
decreasing_by
 have h:=iQ k.2;cases s;simp at h |-;omega
@[simp] abbrev fU(s:TN):D:= .agg [.v (.int .i64 s.ID),.v (.int .i64 s.kind),.v (.string s.tag),.v (.string s.text),.sl false (s.classes.map D.str),.sl false (s.attrs.map cH),.sl false (s.styles.map bY),.sl false (s.kids.map mK)]
@[simp] abbrev aU8(s:TN):D:= .agg [.v (.int .i64 s.ID),.v (.int .i64 s.kind),.v (.string s.tag),.v (.string s.text),.sl true (s.classes.map D.str),.sl true (s.attrs.map cH),.sl true (s.styles.map bY),.sl true (s.kids.map mK)]
@[simp] theorem aJ0(s:TN):mK s=fU s:=by rw [mK];simp
theorem Fm(N:Nat)(t:TN):Sc N (fU t):=Sc.agg fun d hd=>by
 simp only [gA,lF,lC] at hd;rcases hd with rfl | rfl | rfl | rfl | rfl | rfl | rfl | rfl
 .exact Sc.v _
 .exact Sc.v _
 .exact Sc.v _
 .exact Sc.v _
 .exact Sc.sl (Sc.map fun a=>Kd _ a)
 .exact Sc.sl (Sc.map fun a=>Lw _ a)
 .exact Sc.sl (Sc.map fun a=>Ka _ a)
 refine Sc.sl fun d hd=>?_;obtain⟨k,hk,e⟩:=bW.1 hd;rw [<- e,aJ0];exact Fm N k
termination_by SizeOf.sizeOf t
decreasing_by
 have h:=iQ hk;cases t;simp at h |-;omega
def jF(t:TN):Nat:=1+(t.kids.attach.map fun k=>jF k.1).sum
termination_by SizeOf.sizeOf t
decreasing_by
 have h:=iQ k.2;cases t;simp at h |-;omega
theorem vI(t:TN):jF t=1+(t.kids.map jF).sum:=by rw [jF];simp
theorem iX {v k:TN} (h:k∈v.kids):jF k+1<=jF v:=by
 rw [vI v];have:∀l:List TN,k∈l->jF k<=(l.map jF).sum:=by
  intro l;induction l with
  | nil=>intro h;cases h
  | cons a l ih=>
   intro h;simp only [eW,pO];rcases gA.1 h with rfl | h
   .omega
   have:=ih h;omega
 have:=this v.kids h;omega
theorem Nf(v:TN):v.kids.length+1<=jF v:=by
 rw [vI v];have:∀l:List TN,l.length<=(l.map jF).sum:=by
  intro l;induction l with
  | nil=>simp
  | cons a l ih=>
   have:=vI a;simp only [eW,pO,cI];omega
 have:=this v.kids;omega
abbrev TSz(t:TN):Prop:=t.classes.length<=9999/\t.attrs.length<=9999/\t.styles.length<=9999/\t.kids.length<=9999
inductive TB:TN->Prop
 | mk (t:TN) (h:TSz t) (hk:∀k∈t.kids,TB k):TB t
theorem TB.s {t:TN} (h:TB t):TSz t:=by cases h;assumption
theorem TB.k {t:TN} (h:TB t):∀k∈t.kids,TB k:=by cases h;assumption
def tkT(l:List TN)(k:Nat):List TN:=l.take k
theorem aFy(l:List TN):tkT l 0= []:=rfl
theorem aCy(l:List TN)(k:Nat)(h:k<l.length):tkT l (k+1)=tkT l k++ [l[k]]:=bB l k h
theorem aKr(l:List TN)(k:Nat):(tkT l k).length<=k:=by unfold tkT;rw [bF];omega
theorem aJg(l:List TN):tkT l l.length=l:=dY
abbrev aMk(t:TN):Prop:=∀σ:List (List D),Ct prog 19 [fU t] σ (fun r σ'=>r=fU t/\σ'=σ)
@[simp] abbrev q46_3:Cfg:=⟨[31,45,59],[],[3],[],[]⟩
theorem aFp(t:TN)(σ:List (List D))(h:TSz t)(ih:∀k∈t.kids,aMk k):Ct prog 19 [fU t] σ (fun r σ'=>(r.plain=true/\r.strip=fU t)/\∃J,σ'=σ++J):=by
 refine zf func19 ?_;obtain⟨h1,h2,h3,h4⟩:=h;refine zr q46_3 fun _ _ Z=>?_;simp(disch:=omega)[aD,aA];apply Z;refine zd q46_3 [.op {},.op {rL:=true},.op {},.op {rL:=true},.op {},.op {rL:=true},.op {},.op {rL:=true},.op {},.op {},.op {rL:=true},.op {},.op {},.op {rO:=true,wO:=true},.op {rO:=true,wO:=true}] fun all hall _ Z=>?_;refine iK 8 fun _ Y=>?_;simp(disch:=omega)[aD,aA];apply Y;simp(disch:=omega)[aD,aA];and_intros<;>(try omega);apply Z;apply aF;refine zk [1,2,3] ?_;refine zr q46_3 fun _ _ Z=>?_;simp(disch:=omega)[aD,aA];and_intros<;>(try omega);apply Z;apply aN;refine zk [1,2,3,24,25,26] ?_;refine eO (fun(k:Nat)=> [(26,.d (.v (.int .i64 (k:Int))))]) (fun(k:Nat)=> []) (fun(k:Nat)=> [(σ.length, [D.int t.ID,D.int t.kind,D.str t.tag,D.str t.text,.sl false (t.classes.map D.str),.sl true ((tkA t.attrs k).map cH),.sl true ((tkP t.styles 0).map bY),.sl true ((tkT t.kids 0).map mK)])]) [5,26,27,28,29,30,31,32,33,34,35,36] (fun(k:Nat)=>k<=t.attrs.length) (fun(k:Nat)=>t.attrs.length - k) (0) (by simp <;> rfl) ?_ (by simp) (by simp [aD,aL2,Wm,aFy]) ?_ ?_
 .simp
 .simp
 rintro k hk;simp only [aM,aK,dD,cJ,bK,bN];have htl:=Wi t.attrs k;refine zr q46_3 fun _ _ Z=>?_;simp(disch:=omega)[aD,aA];apply Z;apply aF;refine zI ?_ ?_<;>intro c1<;>try simp at c1
 .apply kL;refine zr q46_3 fun _ _ Z=>?_;simp(disch:=omega)[aD,aA];and_intros<;>(try omega);apply Z;refine zt q46_3 fun _ _ Z=>?_;simp(disch:=omega)[aD,aA];and_intros<;>(try omega);apply Z;apply zB;refine zk [1,2,3,24,25,26] ?_;refine zt q46_3 fun _ _ Z=>?_;simp(disch:=omega)[aD,aA];and_intros<;>(try omega);apply Z;refine cQ (k+1) ?_ ?_ (aU rfl ?_ (by simp) (by simp [Oa, *]))
  .omega
  .try dsimp only
   omega
  simp(disch:=omega)[aD,aA]
 obtain rfl:k=t.attrs.length:=by omega
 apply zE;apply aF;refine zr q46_3 fun _ _ Z=>?_;simp(disch:=omega)[aD,aA];and_intros<;>(try omega);apply Z;apply aN;refine zk [1,2,3,38,39,40] ?_;refine eO (fun(i:Nat)=> [(40,.d (.v (.int .i64 (i:Int))))]) (fun(i:Nat)=> []) (fun(i:Nat)=> [(σ.length, [D.int t.ID,D.int t.kind,D.str t.tag,D.str t.text,.sl false (t.classes.map D.str),.sl true ((tkA t.attrs t.attrs.length).map cH),.sl true ((tkP t.styles i).map bY),.sl true ((tkT t.kids 0).map mK)])]) [7,40,41,42,43,44,45,46,47,48,49,50] (fun(i:Nat)=>i<=t.styles.length) (fun(i:Nat)=>t.styles.length - i) (0) (by simp <;> rfl) ?_ (by simp) (by simp [aD,Wm,aFy]) ?_ ?_
 .simp
 .simp
 rintro i hi;simp only [aM,aK,dD,cJ,bK,bN];have htl1:=Kn t.styles i;refine zr q46_3 fun _ _ Z=>?_;simp(disch:=omega)[aD,aA];apply Z;apply aF;refine zI ?_ ?_<;>intro c2<;>try simp at c2
 .apply kL;refine zr q46_3 fun _ _ Z=>?_;simp(disch:=omega)[aD,aA];and_intros<;>(try omega);apply Z;refine zt q46_3 fun _ _ Z=>?_;simp(disch:=omega)[aD,aA];and_intros<;>(try omega);apply Z;apply zB;refine zk [1,2,3,38,39,40] ?_;refine zt q46_3 fun _ _ Z=>?_;simp(disch:=omega)[aD,aA];and_intros<;>(try omega);apply Z;refine cQ (i+1) ?_ ?_ (aU rfl ?_ (by simp) (by simp [Fe, *]))
  .omega
  .try dsimp only
   omega
  simp(disch:=omega)[aD,aA]
 obtain rfl:i=t.styles.length:=by omega
 apply zE;apply aF;refine zr q46_3 fun _ _ Z=>?_;simp(disch:=omega)[aD,aA];and_intros<;>(try omega);apply Z;apply aN;refine zk [2,3,52,53,54] ?_;refine eO (fun(j:Nat)=> [(54,.d (.v (.int .i64 (j:Int))))]) (fun(j:Nat)=> []) (fun(j:Nat)=> [(σ.length, [D.int t.ID,D.int t.kind,D.str t.tag,D.str t.text,.sl false (t.classes.map D.str),.sl true ((tkA t.attrs t.attrs.length).map cH),.sl true ((tkP t.styles t.styles.length).map bY),.sl true ((tkT t.kids j).map mK)])]) [9,54,55,56,57,58,59,60,61,62,63,64,65] (fun(j:Nat)=>j<=t.kids.length) (fun(j:Nat)=>t.kids.length - j) (0) (by simp <;> rfl) ?_ (by simp) (by simp [aD,aFy]) ?_ ?_
 .simp
 .simp
 rintro j hj;simp only [aM,aK,dD,cJ,bK,bN];have htl2:=aKr t.kids j;refine zr q46_3 fun _ _ Z=>?_;simp(disch:=omega)[aD,aA];apply Z;apply aF;refine zI ?_ ?_<;>intro c3<;>try simp at c3
 .apply kL;refine zr q46_3 fun _ _ Z=>?_;simp(disch:=omega)[aD,aA];and_intros<;>(try omega);apply Z;refine ze q46_3 [.op {},.op {rO:=true,wO:=true},.op {rL:=true},.pure,.op {},.op {},.op {},.op {rO:=true,wO:=true}] fun all hall _ Z=>?_;refine iK 3 fun _ Y=>?_;simp(disch:=omega)[aD,aA];apply Y;refine bJ fun _ Y=>?_;simp(disch:=omega)[aD,aA];refine pH (fun _=>(ih t.kids[j] (bS _) _)) ?_;apply Y;simp(disch:=omega)[aD,aA];and_intros<;>(try omega);apply Z;apply zB;refine zk [2,3,52,53,54] ?_;refine zt q46_3 fun _ _ Z=>?_;simp(disch:=omega)[aD,aA];and_intros<;>(try omega);apply Z;refine cQ (j+1) ?_ ?_ (aU rfl ?_ (by simp) (by simp [aCy, *]))
  .omega
  .try dsimp only
   omega
  simp(disch:=omega)[aD,aA]
 obtain rfl:j=t.kids.length:=by omega
 rw [Ve,Kf,aJg];apply zE;refine zr q46_3 fun _ _ Z=>?_;simp(disch:=omega)[aD,aA];apply Z;apply aE;simp [aP]
theorem Wf(t:TN)(h:TB t):aMk t:=fun σ=>
 have h1:Ct prog 19 [fU t] σ (fun r σ'=>r=fU t/\∃J,σ'=σ++J):=(aFp t σ h.s fun k hk=>Wf k (h.k k hk)).strip fun r σ' h=>⟨h.1.1,h.1.2,h.2⟩
 h1.trim fun r σ' ⟨hr,J,hs⟩=>⟨σ,J,hs,rfl,by rw [hr];exact Fm _ _,fun n cs h=> .inl h,hr,rfl⟩
termination_by jF t
decreasing_by
 have:=iX hk;omega
def yJ(v:VN):TN:=if v.kind=1 then⟨0,1,⟨#[]⟩,v.text, [], [], [], []⟩else⟨0,2,v.tag,⟨#[]⟩,v.classes,v.attrs,v.styles,v.kids.attach.map fun k=>yJ k.1⟩
termination_by SizeOf.sizeOf v
decreasing_by
 have h:=iQ k.2;cases v;simp at h |-;omega
theorem As(v:VN):yJ v=if v.kind=1 then⟨0,1,⟨#[]⟩,v.text, [], [], [], []⟩else⟨0,2,v.tag,⟨#[]⟩,v.classes,v.attrs,v.styles,v.kids.map yJ⟩:=by
 rw [yJ];simp
def tkO(l:List VN)(k:Nat):List TN:=(l.take k).map yJ
theorem aMm(l:List VN):tkO l 0= []:=rfl
theorem Nl(l:List VN)(k:Nat)(h:k<l.length):tkO l (k+1)=tkO l k++ [yJ l[k]]:=by unfold tkO;rw [bB l k h,cX];rfl
theorem Ur(l:List VN)(k:Nat):(tkO l k).length<=k:=by unfold tkO;rw [cG,bF];omega
theorem Vb(l:List VN):tkO l l.length=l.map yJ:=by unfold tkO;rw [dY]
abbrev OfC(v:VN):Prop:=∀σ:List (List D),Ct prog 67 [jN v] σ (fun r σ'=>r=fU (yJ v)/\σ'=σ)
@[simp] abbrev q46_4:Cfg:=⟨[15,17,19,29],[],[3],[],[]⟩
theorem aN4(v:VN)(σ:List (List D))(h:VSz v)(ih:∀k∈v.kids,OfC k):Ct prog 67 [jN v] σ (fun r σ'=>(r.plain=true/\r.strip=fU (yJ v))/\∃J,σ'=σ++J):=by
 refine zf func67 ?_;obtain⟨h1,h2,h3,h4,h5⟩:=h;refine zr q46_4 fun _ _ Z=>?_;simp(disch:=omega)[aD,aA];apply Z;apply aF;refine zr q46_4 fun _ _ Z=>?_;simp(disch:=omega)[aD,aA];apply Z;refine zI ?_ ?_<;>intro c1<;>try simp at c1
 .refine zr q46_4 fun _ _ Z=>?_;simp(disch:=omega)[aD,aA];apply Z;apply aE;simp [aP];rw [As,aR c1];simp
 apply zA;refine zr q46_4 fun _ _ Z=>?_;refine zs 8 fun _ Y=>?_;simp(disch:=omega)[aD,aA];apply Y;simp(disch:=omega)[aD,aA];and_intros<;>(try omega);apply Z;apply aF;refine zk [1,2,3] ?_;refine zr q46_4 fun _ _ Z=>?_;simp(disch:=omega)[aD,aA];and_intros<;>(try omega);apply Z;apply aN;refine zk [2,3,22,23,24] ?_;refine eO (fun(j:Nat)=> [(24,.d (.v (.int .i64 (j:Int))))]) (fun(j:Nat)=> []) (fun(j:Nat)=> [(σ.length, [D.int 0,D.int 2,D.str v.tag,D.str ⟨#[]⟩,.sl false (v.classes.map D.str),.sl false (v.attrs.map cH),.sl false (v.styles.map bY),.sl true ((tkO v.kids j).map mK)])]) [5,24,25,26,27,28,29,30,31,32,33,34,35] (fun(j:Nat)=>j<=v.kids.length) (fun(j:Nat)=>v.kids.length - j) (0) (by simp <;> rfl) ?_ (by simp) (by simp [aD,aMm]) ?_ ?_
 .simp
 .simp
 rintro j hj;simp only [aM,aK,dD,cJ,bK,bN];have htl2:=Ur v.kids j;refine zr q46_4 fun _ _ Z=>?_;simp(disch:=omega)[aD,aA];apply Z;apply aF;refine zI ?_ ?_<;>intro c2<;>try simp at c2
 .apply kL;refine zr q46_4 fun _ _ Z=>?_;simp(disch:=omega)[aD,aA];and_intros<;>(try omega);apply Z;refine ze q46_4 [.op {},.op {rO:=true,wO:=true},.op {rL:=true},.pure,.op {},.op {},.op {},.op {rO:=true,wO:=true}] fun all hall _ Z=>?_;refine iK 3 fun _ Y=>?_;simp(disch:=omega)[aD,aA];apply Y;refine bJ fun _ Y=>?_;simp(disch:=omega)[aD,aA];refine pH (fun _=>(ih v.kids[j] (bS _) _)) ?_;apply Y;simp(disch:=omega)[aD,aA];and_intros<;>(try omega);apply Z;apply zB;refine zk [2,3,22,23,24] ?_;refine zt q46_4 fun _ _ Z=>?_;simp(disch:=omega)[aD,aA];and_intros<;>(try omega);apply Z;refine cQ (j+1) ?_ ?_ (aU rfl ?_ (by simp) (by simp [Nl, *]))
  .omega
  .try dsimp only
   omega
  simp(disch:=omega)[aD,aA]
 obtain rfl:j=v.kids.length:=by omega
 rw [Vb];apply zE;refine zr q46_4 fun _ _ Z=>?_;simp(disch:=omega)[aD,aA];apply Z;apply aE;simp [aP];rw [As,aH c1];simp
inductive VB:VN->Prop
 | mk (v:VN) (h:VSz v) (hk:∀k∈v.kids,VB k):VB v
theorem VB.s (h:VB v):VSz v:=by cases h;assumption
theorem VB.k (h:VB v):∀k∈v.kids,VB k:=by cases h;assumption
theorem VG.b:∀ {v:VN},VG v->fG v<=9999->VB v
 | v,h,hc=> .mk v (h.sz hc) fun k hk=>VG.b (h.k k hk) (by have:=iH hk;omega)
termination_by v=>fG v
decreasing_by
 have:=iH hk;omega
theorem yT(v:VN):v=txt v v.text:=by cases v;rfl
theorem aCi {o:List VN} {k x:VN} (h:x∈mS o k):∃y,(y∈o\/y=k)/\∃s,x=txt y s:=by
 unfold mS at h;have hq:x∈o++ [k]->∃y,(y∈o\/y=k)/\∃s,x=txt y s:=fun h=>by
  rcases dZ.1 h with h | h
  .exact⟨x,.inl h,x.text,yT x⟩
  exact⟨k,.inr rfl,k.text,by rw [iW.1 h];exact yT k⟩
 split at h
 .rename_i p hp;split at h
  .rcases Jp h with h | h
   .exact⟨x,.inl h,x.text,yT x⟩
   exact⟨p,.inl (List.mem_of_getLast? hp),_,h⟩
  exact hq h
 exact hq h
theorem Jk {l:List VN} {x:VN} (h:x∈gZ l):∃y∈l,∃s,x=txt y s:=by
 have:∀(l o:List VN),x∈l.foldl mS o->∃y,(y∈o\/y∈l)/\∃s,x=txt y s:=by
  intro l;induction l with
  | nil=>intro o h;exact⟨x,.inl h,x.text,yT x⟩
  | cons a l ih =>
   intro o h;obtain⟨y,hy,s,e⟩:=ih _ h;rcases hy with hy | hy
   .obtain⟨z,hz,s2,e2⟩:=aCi hy;rcases hz with hz | rfl
    .exact⟨z,.inl hz,s,by rw [e,e2];rfl⟩
    exact⟨z,.inr List.mem_cons_self,s,by rw [e,e2];rfl⟩
   exact⟨y,.inr (List.mem_cons_of_mem _ hy),s,e⟩
 obtain⟨y,hy,h2⟩:=this l [] h;rcases hy with hy | hy
 .cases hy
 exact⟨y,hy,h2⟩
theorem VB.txt (h:VB v)(s:ByteArray):VB (txt v s):= .mk _ h.s h.k
theorem Fc:∀ {v:VN},VG v->fG v<=100->VB (eR v)
 | v, h, hc => by
  rw [lL];obtain⟨a,b,c,d, -⟩:=h.f;have hl:=Oj v;have ha:=Ao v.classes;have hb:=lO nA v.attrs;have hcl:=lO nP v.styles;have hm:(gZ ((v.kids.map eR).filter jB)).length<=v.kids.length:=cZ (Ju _) (cZ (gE _ _) (by simp));refine .mk _ ⟨by show(lY v.classes).length<=9999;omega,by show(jD nA v.attrs).length<=9999;omega,by show(jD nP v.styles).length<=9999;omega,cZ hm (by omega),fun k hk=>?_⟩ fun k hk=>?_
  .have hx:=Bl (l:=(v.kids.map eR).filter jB) (B:=70) (fun k hk=>by
    obtain⟨y,hy,rfl⟩:=bW.1 (iP.1 hk).1;rw [qA];exact(h.k y hy).f.2.2.2.1) _ (bG _) k (by rw [dY];exact hk)
   have h2:((v.kids.map eR).filter jB).length<=100:=cZ (gE _ _) (by simp;omega);have h3:((v.kids.map eR).filter jB).length * 70<=100 * 70:=eS _ h2;omega
  obtain⟨y,hy,s,rfl⟩:=Jk hk;obtain⟨z,hz,rfl⟩:=bW.1 (iP.1 hy).1;exact(Fc (h.k z hz) (by have:=iH hz;omega)).txt s
termination_by v=>fG v
decreasing_by
 have:=iH hz;omega
theorem aCb(v:VN)(h:VB v):OfC v:=fun σ=>
 have h1:Ct prog 67 [jN v] σ (fun r σ'=>r=fU (yJ v)/\∃J,σ'=σ++J):=(aN4 v σ h.s fun k hk=>aCb k (h.k k hk)).strip fun r σ' h=>⟨h.1.1,h.1.2,h.2⟩
 h1.trim fun r σ' ⟨hr,J,hs⟩=>⟨σ,J,hs,rfl,by rw [hr];exact Fm _ _,fun n cs h=> .inl h,hr,rfl⟩
termination_by fG v
decreasing_by
 have:=iH hk;omega
theorem aOb(v:VN)(σ:List (List D))(h:VG v)(hc:fG v<=100):Ct prog 27 [jN v] σ (fun r σ'=>(r.plain=true/\r.strip=fU (yJ (eR v)))/\σ'=σ):=by
 refine zf func27 ?_;refine bT fun _ _ Z=>?_;simp;apply Z;refine bT fun _ _ Z=>?_;refine zs 1 fun _ Y=>?_;simp;apply Y;refine aG fun _ Y=>?_;simp;refine dX (Np v h (by omega) _) ?_;apply Y;refine aG fun _ Y=>?_;simp;refine dX (aCb (eR v) (Fc h hc) _) ?_;apply Y;simp;apply Z;apply aE;simp [aP]
end Go.Proofs.YtbdjepeabjangaaGreat
