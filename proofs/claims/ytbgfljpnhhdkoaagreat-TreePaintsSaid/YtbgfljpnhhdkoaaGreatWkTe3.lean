import Derived.Test.YtbgfljpnhhdkoaaGreatWkVi7
set_option linter.all false
set_option maxRecDepth 20000
set_option maxHeartbeats 8000000
open Go.Proofs.Tryz
namespace Go.Proofs.YtbgfljpnhhdkoaaGreat
open Go Go.Vm
variable {v:VN}
structure TN where
 ID:Int
 kind:Int
 tag:ByteArray
 text:ByteArray
 classes:(List ByteArray)
 attrs:(List AT)
 styles:(List PI)
 kids:(List TN)
def Sp(s:TN):D:= .agg [.v (.int .i64 s.ID),.v (.int .i64 s.kind),.v (.string s.tag),.v (.string s.text),.sl false (s.classes.map D.str),.sl false (s.attrs.map cY),.sl false (s.styles.map cR),.sl false (s.kids.attach.map fun k=>Sp k.1)]
termination_by SizeOf.sizeOf s
decreasing_by
 have h:=pA k.2;cases s;simp at h |-;omega
@[simp] abbrev As(s:TN):D:= .agg [.v (.int .i64 s.ID),.v (.int .i64 s.kind),.v (.string s.tag),.v (.string s.text),.sl false (s.classes.map D.str),.sl false (s.attrs.map cY),.sl false (s.styles.map cR),.sl false (s.kids.map Sp)]
@[simp] abbrev bAo(s:TN):D:= .agg [.v (.int .i64 s.ID),.v (.int .i64 s.kind),.v (.string s.tag),.v (.string s.text),.sl true (s.classes.map D.str),.sl true (s.attrs.map cY),.sl true (s.styles.map cR),.sl true (s.kids.map Sp)]
@[simp] theorem aRb(s:TN):Sp s=As s:=by rw [Sp];simp
theorem aR5(N:Nat)(t:TN):Sc N (As t):=Sc.agg fun d hd=>by
 simp only [bQ,gS,gW] at hd;rcases hd with rfl | rfl | rfl | rfl | rfl | rfl | rfl | rfl
 .exact Sc.v _
 .exact Sc.v _
 .exact Sc.v _
 .exact Sc.v _
 .exact Sc.sl (Sc.map fun a=>Sf _ a)
 .exact Sc.sl (Sc.map fun a=>Rp _ a)
 .exact Sc.sl (Sc.map fun a=>Sb _ a)
 refine Sc.sl fun d hd=>?_;obtain⟨k,hk,e⟩:=aX.1 hd;rw [<- e,aRb];exact aR5 N k
termination_by SizeOf.sizeOf t
decreasing_by
 have h:=pA hk;cases t;simp at h |-;omega
def Mx(t:TN):Nat:=1+(t.kids.attach.map fun k=>Mx k.1).sum
termination_by SizeOf.sizeOf t
decreasing_by
 have h:=pA k.2;cases t;simp at h |-;omega
theorem aOw(t:TN):Mx t=1+(t.kids.map Mx).sum:=by rw [Mx];simp
theorem Xn {v k:TN} (h:k∈v.kids):Mx k+1<=Mx v:=by
 rw [aOw v];have:∀l:List TN,k∈l->Mx k<=(l.map Mx).sum:=by
  intro l;induction l with
  | nil=>intro h;cases h
  | cons a l ih=>
   intro h;simp only [cM,kQ];rcases bQ.1 h with rfl | h
   .omega
   have:=ih h;omega
 have:=this v.kids h;omega
abbrev TSz(t:TN):Prop:=t.classes.length<=9999/\t.attrs.length<=9999/\t.styles.length<=9999/\t.kids.length<=9999
inductive TB:TN->Prop
 | mk (t:TN) (h:TSz t) (hk:∀k∈t.kids,TB k):TB t
theorem TB.s {t:TN} (h:TB t):TSz t:=by cases h;assumption
theorem TB.k {t:TN} (h:TB t):∀k∈t.kids,TB k:=by cases h;assumption
def tkT(l:List TN)(k:Nat):List TN:=l.take k
theorem aI6(l:List TN):tkT l 0= []:=rfl
theorem aJ8(l:List TN)(k:Nat)(h:k<l.length):tkT l (k+1)=tkT l k++ [l[k]]:=bJ l k h
theorem aPp(l:List TN)(k:Nat):(tkT l k).length<=k:=by unfold tkT;rw [bG];omega
theorem aRg(l:List TN):tkT l l.length=l:=dX
abbrev aR8(t:TN):Prop:=∀σ:List (List D),Ct prog 36 [As t] σ (fun r σ'=>r=As t/\σ'=σ)
@[simp] abbrev q37_1:Cfg:=⟨[31,45,59],[],[3],[],[]⟩
theorem aMy(t:TN)(σ:List (List D))(h:TSz t)(ih:∀k∈t.kids,aR8 k):Ct prog 36 [As t] σ (fun r σ'=>(r.plain=true/\r.strip=As t)/\∃J,σ'=σ++J):=by
 refine zf func36 ?_;obtain⟨h1,h2,h3,h4⟩:=h;refine zr q37_1 fun _ _ Z=>?_;simp(disch:=omega)[aH,aG];apply Z;refine zd q37_1 [.op {},.op {rL:=true},.op {},.op {rL:=true},.op {},.op {rL:=true},.op {},.op {rL:=true},.op {},.op {},.op {rL:=true},.op {},.op {},.op {rO:=true,wO:=true},.op {rO:=true,wO:=true}] fun all hall _ Z=>?_;refine lY 8 fun _ Y=>?_;simp(disch:=omega)[aH,aG];apply Y;simp(disch:=omega)[aH,aG];and_intros<;>(try omega);apply Z;apply aF;refine zk [1,2,3] ?_;refine zr q37_1 fun _ _ Z=>?_;simp(disch:=omega)[aH,aG];and_intros<;>(try omega);apply Z;apply aR;refine zk [1,2,3,24,25,26] ?_;refine kS (fun(k:Nat)=> [(26,.d (.v (.int .i64 (k:Int))))]) (fun(k:Nat)=> []) (fun(k:Nat)=> [(σ.length, [D.int t.ID,D.int t.kind,D.str t.tag,D.str t.text,.sl false (t.classes.map D.str),.sl true ((tkA t.attrs k).map cY),.sl true ((tkP t.styles 0).map cR),.sl true ((tkT t.kids 0).map Sp)])]) [5,26,27,28,29,30,31,32,33,34,35,36] (fun(k:Nat)=>k<=t.attrs.length) (fun(k:Nat)=>t.attrs.length - k) (0) (by simp <;> rfl) ?_ (by simp) (by simp [aH,aR6,aHz,aI6]) ?_ ?_
 .simp
 .simp
 rintro k hk;simp only [aQ,aP,lL,jP,gO,gA];have htl:=aBr t.attrs k;refine zr q37_1 fun _ _ Z=>?_;simp(disch:=omega)[aH,aG];apply Z;apply aF;refine zI ?_ ?_<;>intro c1<;>try simp at c1
 .apply kB;refine zr q37_1 fun _ _ Z=>?_;simp(disch:=omega)[aH,aG];and_intros<;>(try omega);apply Z;refine zt q37_1 fun _ _ Z=>?_;simp(disch:=omega)[aH,aG];and_intros<;>(try omega);apply Z;apply zB;refine zk [1,2,3,24,25,26] ?_;refine zt q37_1 fun _ _ Z=>?_;simp(disch:=omega)[aH,aG];and_intros<;>(try omega);apply Z;refine eG (k+1) ?_ ?_ (dT rfl ?_ (by simp) (by simp [Vx, *]))
  .omega
  .try dsimp only
   omega
  simp(disch:=omega)[aH,aG]
 obtain rfl:k=t.attrs.length:=by omega
 apply zE;apply aF;refine zr q37_1 fun _ _ Z=>?_;simp(disch:=omega)[aH,aG];and_intros<;>(try omega);apply Z;apply aR;refine zk [1,2,3,38,39,40] ?_;refine kS (fun(i:Nat)=> [(40,.d (.v (.int .i64 (i:Int))))]) (fun(i:Nat)=> []) (fun(i:Nat)=> [(σ.length, [D.int t.ID,D.int t.kind,D.str t.tag,D.str t.text,.sl false (t.classes.map D.str),.sl true ((tkA t.attrs t.attrs.length).map cY),.sl true ((tkP t.styles i).map cR),.sl true ((tkT t.kids 0).map Sp)])]) [7,40,41,42,43,44,45,46,47,48,49,50] (fun(i:Nat)=>i<=t.styles.length) (fun(i:Nat)=>t.styles.length - i) (0) (by simp <;> rfl) ?_ (by simp) (by simp [aH,aHz,aI6]) ?_ ?_
 .simp
 .simp
 rintro i hi;simp only [aQ,aP,lL,jP,gO,gA];have htl1:=aA7 t.styles i;refine zr q37_1 fun _ _ Z=>?_;simp(disch:=omega)[aH,aG];apply Z;apply aF;refine zI ?_ ?_<;>intro c2<;>try simp at c2
 .apply kB;refine zr q37_1 fun _ _ Z=>?_;simp(disch:=omega)[aH,aG];and_intros<;>(try omega);apply Z;refine zt q37_1 fun _ _ Z=>?_;simp(disch:=omega)[aH,aG];and_intros<;>(try omega);apply Z;apply zB;refine zk [1,2,3,38,39,40] ?_;refine zt q37_1 fun _ _ Z=>?_;simp(disch:=omega)[aH,aG];and_intros<;>(try omega);apply Z;refine eG (i+1) ?_ ?_ (dT rfl ?_ (by simp) (by simp [Ue, *]))
  .omega
  .try dsimp only
   omega
  simp(disch:=omega)[aH,aG]
 obtain rfl:i=t.styles.length:=by omega
 apply zE;apply aF;refine zr q37_1 fun _ _ Z=>?_;simp(disch:=omega)[aH,aG];and_intros<;>(try omega);apply Z;apply aR;refine zk [2,3,52,53,54] ?_;refine kS (fun(j:Nat)=> [(54,.d (.v (.int .i64 (j:Int))))]) (fun(j:Nat)=> []) (fun(j:Nat)=> [(σ.length, [D.int t.ID,D.int t.kind,D.str t.tag,D.str t.text,.sl false (t.classes.map D.str),.sl true ((tkA t.attrs t.attrs.length).map cY),.sl true ((tkP t.styles t.styles.length).map cR),.sl true ((tkT t.kids j).map Sp)])]) [9,54,55,56,57,58,59,60,61,62,63,64,65] (fun(j:Nat)=>j<=t.kids.length) (fun(j:Nat)=>t.kids.length - j) (0) (by simp <;> rfl) ?_ (by simp) (by simp [aH,aI6]) ?_ ?_
 .simp
 .simp
 rintro j hj;simp only [aQ,aP,lL,jP,gO,gA];have htl2:=aPp t.kids j;refine zr q37_1 fun _ _ Z=>?_;simp(disch:=omega)[aH,aG];apply Z;apply aF;refine zI ?_ ?_<;>intro c3<;>try simp at c3
 .apply kB;refine zr q37_1 fun _ _ Z=>?_;simp(disch:=omega)[aH,aG];and_intros<;>(try omega);apply Z;refine ze q37_1 [.op {},.op {rO:=true,wO:=true},.op {rL:=true},.pure,.op {},.op {},.op {},.op {rO:=true,wO:=true}] fun all hall _ Z=>?_;refine lY 3 fun _ Y=>?_;simp(disch:=omega)[aH,aG];apply Y;refine cF fun _ Y=>?_;simp(disch:=omega)[aH,aG];refine Aa (fun _=>(ih t.kids[j] (cJ _) _)) ?_;apply Y;simp(disch:=omega)[aH,aG];and_intros<;>(try omega);apply Z;apply zB;refine zk [2,3,52,53,54] ?_;refine zt q37_1 fun _ _ Z=>?_;simp(disch:=omega)[aH,aG];and_intros<;>(try omega);apply Z;refine eG (j+1) ?_ ?_ (dT rfl ?_ (by simp) (by simp [aJ8, *]))
  .omega
  .try dsimp only
   omega
  simp(disch:=omega)[aH,aG]
 obtain rfl:j=t.kids.length:=by omega
 rw [aBd,aCp,aRg];apply zE;refine zr q37_1 fun _ _ Z=>?_;simp(disch:=omega)[aH,aG];apply Z;apply aD;simp [aJ]
theorem Ef(t:TN)(h:TB t):aR8 t:=fun σ=>
 have h1:Ct prog 36 [As t] σ (fun r σ'=>r=As t/\∃J,σ'=σ++J):=(aMy t σ h.s fun k hk=>Ef k (h.k k hk)).strip fun r σ' h=>⟨h.1.1,h.1.2,h.2⟩
 h1.trim fun r σ' ⟨hr,J,hs⟩=>⟨σ,J,hs,rfl,by rw [hr];exact aR5 _ _,fun n cs h=> .inl h,hr,rfl⟩
termination_by Mx t
decreasing_by
 have:=Xn hk;omega
inductive VB:VN->Prop
 | mk (v:VN) (h:VSz v) (hk:∀k∈v.kids,VB k):VB v
theorem VB.s (h:VB v):VSz v:=by cases h;assumption
theorem VB.k (h:VB v):∀k∈v.kids,VB k:=by cases h;assumption
theorem VG.b:∀ {v:VN},VG v->dL v<=9999->VB v
 | v,h,hc=> .mk v (h.sz hc) fun k hk=>VG.b (h.k k hk) (by have:=fY hk;omega)
termination_by v=>dL v
decreasing_by
 have:=fY hk;omega
theorem El(v:VN):v=txt v v.text:=by cases v;rfl
theorem aHm {o:List VN} {k x:VN} (h:x∈oG o k):∃y,(y∈o\/y=k)/\∃s,x=txt y s:=by
 unfold oG at h;have hq:x∈o++ [k]->∃y,(y∈o\/y=k)/\∃s,x=txt y s:=fun h=>by
  rcases bN.1 h with h | h
  .exact⟨x,.inl h,x.text,El x⟩
  exact⟨k,.inr rfl,k.text,by rw [fG.1 h];exact El k⟩
 split at h
 .rename_i p hp;split at h
  .rcases Ow h with h | h
   .exact⟨x,.inl h,x.text,El x⟩
   exact⟨p,.inl (List.mem_of_getLast? hp),_,h⟩
  exact hq h
 exact hq h
theorem aEs {l:List VN} {x:VN} (h:x∈gY l):∃y∈l,∃s,x=txt y s:=by
 have:∀(l o:List VN),x∈l.foldl oG o->∃y,(y∈o\/y∈l)/\∃s,x=txt y s:=by
  intro l;induction l with
  | nil=>intro o h;exact⟨x,.inl h,x.text,El x⟩
  | cons a l ih =>
   intro o h;obtain⟨y,hy,s,e⟩:=ih _ h;rcases hy with hy | hy
   .obtain⟨z,hz,s2,e2⟩:=aHm hy;rcases hz with hz | rfl
    .exact⟨z,.inl hz,s,by rw [e,e2];rfl⟩
    exact⟨z,.inr fE,s,by rw [e,e2];rfl⟩
   exact⟨y,.inr (gL _ hy),s,e⟩
 obtain⟨y,hy,h2⟩:=this l [] h;rcases hy with hy | hy
 .cases hy
 exact⟨y,hy,h2⟩
theorem VB.txt (h:VB v)(s:ByteArray):VB (txt v s):= .mk _ h.s h.k
theorem aRk(v:VN)(s:ByteArray):dL (txt v s)=dL v:=by rw [kA,kA v];rfl
theorem aCl:∀(o:List VN) (i:Nat) (x:VN) (h:i<o.length),dL x=dL o[i]->((o.set i x).map dL).sum=(o.map dL).sum
 | a::o,0,x,_,e=>by simp at e;simp [e]
 | a::o,i+1,x,h,e=>by
  have:=aCl o i x (by simpa using h) (by simpa using e);simp only [gA,cM,kQ,this]
theorem aKe(o:List VN)(k:VN):((oG o k).map dL).sum<=(o.map dL).sum+dL k:=by
 unfold oG;split
 .rename_i p hp;split
  .rw [Gz] at hp;obtain⟨h1,h2⟩:=aO.1 hp;rw [aCl o _ _ h1 (by rw [aRk,h2])];omega
  simp
 simp
theorem aEp(l:List VN):((gY l).map dL).sum<=(l.map dL).sum:=by
 have:∀(l o:List VN),((l.foldl oG o).map dL).sum<=(o.map dL).sum+(l.map dL).sum:=by
  intro l;induction l with
  | nil=>intro o;simp
  | cons a l ih=>
   intro o;have h1:=ih (oG o a);have h2:=aKe o a;simp only [dO,cM,kQ];omega
 have:=this l [];simpa [gY] using this
theorem Yk(l:List VN)(p:VN->Bool):((l.filter p).map dL).sum<=(l.map dL).sum:=by
 induction l with
 | nil=>simp
 | cons a l ih=>
  by_cases h:p a=true
  .rw [qD h];simp;omega
  rw [sO h];simp;omega
theorem aL5 {α:Type} (f g:α->Nat):∀(l:List α),(∀x∈l,f x<=g x)->(l.map f).sum<=(l.map g).sum
 | [],_=>by simp
 | a::l,h=>by
  have:=aL5 f g l fun x hx=>h x (gL _ hx);have:=h a fE;simp;omega
theorem Vp(v:VN):dL (cC v)<=dL v:=by
 rw [kA,kA v,kU];show 1+((gY ((v.kids.map cC).filter jT)).map dL).sum<=_
 have h1:=aEp ((v.kids.map cC).filter jT);have h2:=Yk (v.kids.map cC) jT;rw [fV] at h2;have h3:=aL5 (dL ∘ cC) dL v.kids fun x hx=>Vp x;omega
termination_by dL v
decreasing_by
 have:=fY hx;omega
abbrev aSk(a b:TN):Prop:=∀σ:List (List D),Ct prog 38 [As a,As b] σ (fun r σ'=>r=D.bool true/\σ'=σ)
theorem aKi(a:TN)(i:Int)(kb:List TN)(σ:List (List D))(h:TSz a)(hk:kb.length=a.kids.length)(ih:∀j (h1:j<a.kids.length) (h2:j<kb.length),aSk a.kids[j] kb[j]):Ct prog 38 [As a,As { a with ID:=i,kids:=kb }] σ (fun r σ'=>r= .bool true/\σ'=σ):=by
 refine zf func38 ?_;obtain⟨h1,h2,h3,h4⟩:=h;refine aZ fun _ _ Z=>?_;simp(disch:=omega)[hk];apply Z;apply aF;refine iU ⟨[],[],[],[],[]⟩ fun all hall _ Z=>?_;have ga5:aK all 5=some 14:=hall 5;have ga12:aK all 12=some 21:=hall 12;have ga19:aK all 19=some 28:=hall 19;have ga28:aK all 28=some 37:=hall 28;have ga37:aK all 37=some 46:=hall 37;have ga46:aK all 46=some 55:=hall 46;refine zs 6 fun _ Y=>?_;simp(disch:=omega)[hk,ga5,ga12,ga19,ga28,ga37,ga46];apply Y;refine zb 14 ?_ ?_<;>intro g1<;>try simp at g1
 refine zs 7 fun _ Y=>?_;simp(disch:=omega)[hk,ga5,ga12,ga19,ga28,ga37,ga46];apply Y;refine zb 21 ?_ ?_<;>intro g2<;>try simp at g2
 refine zs 7 fun _ Y=>?_;simp(disch:=omega)[hk,ga5,ga12,ga19,ga28,ga37,ga46];apply Y;refine zb 28 ?_ ?_<;>intro g3<;>try simp at g3
 refine zs 8 fun _ Y=>?_;simp(disch:=omega)[hk,ga5,ga12,ga19,ga28,ga37,ga46];and_intros<;>(try omega);apply Y;refine zs 1 fun _ Y=>?_;simp(disch:=omega)[hk,ga5,ga12,ga19,ga28,ga37,ga46];apply Y;refine zb 37 ?_ ?_<;>intro g4<;>try simp at g4
 refine zs 8 fun _ Y=>?_;simp(disch:=omega)[hk,ga5,ga12,ga19,ga28,ga37,ga46];and_intros<;>(try omega);apply Y;refine zs 1 fun _ Y=>?_;simp(disch:=omega)[hk,ga5,ga12,ga19,ga28,ga37,ga46];apply Y;refine zb 46 ?_ ?_<;>intro g5<;>try simp at g5
 refine zs 8 fun _ Y=>?_;simp(disch:=omega)[hk,ga5,ga12,ga19,ga28,ga37,ga46];and_intros<;>(try omega);apply Y;refine zs 1 fun _ Y=>?_;simp(disch:=omega)[hk,ga5,ga12,ga19,ga28,ga37,ga46];apply Y;refine zb 55 ?_ ?_<;>intro g6<;>try simp at g6
 simp(disch:=omega)[hk,ga5,ga12,ga19,ga28,ga37,ga46];and_intros<;>(try omega);apply Z;refine zI ?_ ?_<;>intro c7<;>try simp at c7
 apply zA;apply aF;refine zk [2,3,4] ?_;refine aZ fun _ _ Z=>?_;simp(disch:=omega)[hk];and_intros<;>(try omega);apply Z;apply aR;refine zk [2,3,4,66,67] ?_;refine bA (fun(k:Nat)=> [(67,.d (.v (.int .i64 (k:Int)))),(5,.d (.any))]) [4,5,67,68,69,70,71,72,73,74,75,76,77,78,79,80,81] (fun(k:Nat)=>k<=a.classes.length) (fun(k:Nat)=>a.classes.length - k) (0) (by simp <;> rfl) ?_ ?_ ?_
 .simp
 .simp
 rintro k hk;simp only [aQ,aP];refine aZ fun _ _ Z=>?_;simp(disch:=omega)[hk];apply Z;apply aF;refine zI ?_ ?_<;>intro c8<;>try simp at c8
 .apply kB;refine aZ fun _ _ Z=>?_;simp(disch:=omega)[hk];apply Z;refine zd ⟨[],[],[],[],[]⟩ [.op {},.op {rL:=true},.op {},.op {},.op {},.op {},.op {rL:=true},.op {},.op {},.op {},.op {}] fun all hall _ Z=>?_;refine lY 8 fun _ Y=>?_;simp(disch:=omega)[hk];and_intros<;>(try omega);apply Y;simp(disch:=omega)[hk];and_intros<;>(try omega);apply Z;refine zI ?_ ?_<;>intro c9<;>try simp at c9
  apply nD;refine zk [2,3,5,66,67] ?_;refine mD fun _ _ Z=>?_;simp(disch:=omega)[hk];and_intros<;>(try omega);apply Z;refine zq (k+1) ?_ ?_ ?_
  .omega
  .try dsimp only
   omega
  simp(disch:=omega)[hk]
 apply zE;apply aF;refine aZ fun _ _ Z=>?_;simp(disch:=omega)[hk];and_intros<;>(try omega);apply Z;apply aR;refine zk [2,3,84,85] ?_;refine bA (fun(k:Nat)=> [(85,.d (.v (.int .i64 (k:Int)))),(6,.d (.any))]) [4,6,85,86,87,88,89,90,91,92,93,94,95,96,97,98,99] (fun(k:Nat)=>k<=a.attrs.length) (fun(k:Nat)=>a.attrs.length - k) (0) (by simp <;> rfl) ?_ ?_ ?_
 .simp
 .simp
 rintro k hk;simp only [aQ,aP];refine aZ fun _ _ Z=>?_;simp(disch:=omega)[hk];apply Z;apply aF;refine zI ?_ ?_<;>intro c10<;>try simp at c10
 .apply kB;refine aZ fun _ _ Z=>?_;simp(disch:=omega)[hk];apply Z;refine zd ⟨[],[],[],[],[]⟩ [.op {},.op {rL:=true},.op {},.op {},.op {},.op {},.op {rL:=true},.op {},.op {},.op {},.op {}] fun all hall _ Z=>?_;refine lY 8 fun _ Y=>?_;simp(disch:=omega)[hk];and_intros<;>(try omega);apply Y;simp(disch:=omega)[hk];and_intros<;>(try omega);apply Z;refine zI ?_ ?_<;>intro c11<;>try simp at c11
  apply nD;refine zk [2,3,6,84,85] ?_;refine mD fun _ _ Z=>?_;simp(disch:=omega)[hk];and_intros<;>(try omega);apply Z;refine zq (k+1) ?_ ?_ ?_
  .omega
  .try dsimp only
   omega
  simp(disch:=omega)[hk]
 apply zE;apply aF;refine aZ fun _ _ Z=>?_;simp(disch:=omega)[hk];and_intros<;>(try omega);apply Z;apply aR;refine zk [2,3,102,103] ?_;refine bA (fun(k:Nat)=> [(103,.d (.v (.int .i64 (k:Int)))),(7,.d (.any))]) [4,7,103,104,105,106,107,108,109,110,111,112,113,114,115,116,117] (fun(k:Nat)=>k<=a.styles.length) (fun(k:Nat)=>a.styles.length - k) (0) (by simp <;> rfl) ?_ ?_ ?_
 .simp
 .simp
 rintro k hk;simp only [aQ,aP];refine aZ fun _ _ Z=>?_;simp(disch:=omega)[hk];apply Z;apply aF;refine zI ?_ ?_<;>intro c12<;>try simp at c12
 .apply kB;refine aZ fun _ _ Z=>?_;simp(disch:=omega)[hk];apply Z;refine zd ⟨[],[],[],[],[]⟩ [.op {},.op {rL:=true},.op {},.op {},.op {},.op {},.op {rL:=true},.op {},.op {},.op {},.op {}] fun all hall _ Z=>?_;refine lY 8 fun _ Y=>?_;simp(disch:=omega)[hk];and_intros<;>(try omega);apply Y;simp(disch:=omega)[hk];and_intros<;>(try omega);apply Z;refine zI ?_ ?_<;>intro c13<;>try simp at c13
  apply nD;refine zk [2,3,7,102,103] ?_;refine mD fun _ _ Z=>?_;simp(disch:=omega)[hk];and_intros<;>(try omega);apply Z;refine zq (k+1) ?_ ?_ ?_
  .omega
  .try dsimp only
   omega
  simp(disch:=omega)[hk]
 apply zE;apply aF;refine aZ fun _ _ Z=>?_;simp(disch:=omega)[hk];and_intros<;>(try omega);apply Z;apply aR;refine zk [2,3,120,121] ?_;refine bA (fun(k:Nat)=> [(121,.d (.v (.int .i64 (k:Int)))),(8,.d (.any))]) [4,8,121,122,123,124,125,126,127,128,129,130,131,132,133,134,135,136] (fun(k:Nat)=>k<=a.kids.length) (fun(k:Nat)=>a.kids.length - k) (0) (by simp <;> rfl) ?_ ?_ ?_
 .simp
 .simp
 rintro k hk;simp only [aQ,aP];refine aZ fun _ _ Z=>?_;simp(disch:=omega)[hk];apply Z;apply aF;refine zI ?_ ?_<;>intro c14<;>try simp at c14
 .apply kB;refine aZ fun _ _ Z=>?_;simp(disch:=omega)[hk];apply Z;refine zk [2,3,8,120,121] ?_;refine zd ⟨[],[],[],[],[]⟩ [.op {},.op {rL:=true},.op {},.op {},.op {},.op {},.op {rL:=true},.op {},.op {},.op {},.pure,.op {}] fun all hall _ Z=>?_;refine lY 8 fun _ Y=>?_;simp(disch:=omega)[hk];and_intros<;>(try omega);apply Y;refine lY 2 fun _ Y=>?_;simp(disch:=omega)[hk];and_intros<;>(try omega);apply Y;refine cF fun _ Y=>?_;simp(disch:=omega)[hk];refine Aa (fun _=>(ih k (by omega) (by omega) _)) ?_;apply Y;simp(disch:=omega)[hk];apply Z;refine zI ?_ ?_<;>intro c15<;>try simp at c15
  apply nD;refine zk [2,3,8,120,121] ?_;refine mD fun _ _ Z=>?_;simp(disch:=omega)[hk];and_intros<;>(try omega);apply Z;refine zq (k+1) ?_ ?_ ?_
  .omega
  .try dsimp only
   omega
  simp(disch:=omega)[hk]
 apply zE;refine aZ fun _ _ Z=>?_;simp(disch:=omega)[hk];apply Z;apply aD;simp [aJ]
structure LK where
 kind:Int
 move:Int
 DX:Int
 DY:Int
 deriving DecidableEq
@[simp] abbrev Ao(s:LK):D:= .agg [.v (.int .i64 s.kind),.v (.int .i64 s.move),.v (.int .i64 s.DX),.v (.int .i64 s.DY)]
def aSc:ByteArray:=⟨#[116,45,119,97,105,116]⟩
def aXd:ByteArray:=⟨#[116,45,101,110,116,101,114,45,102,114,111,109]⟩
def aQp:ByteArray:=⟨#[116,45,101,110,116,101,114,45,97,99,116,105,118,101]⟩
def aXt:ByteArray:=⟨#[116,45,101,110,116,101,114,45,116,111]⟩
def aR3:ByteArray:=⟨#[116,45,104,111,108,100]⟩
def aWh:ByteArray:=⟨#[116,45,108,101,97,118,101,45,102,114,111,109]⟩
def aRp:ByteArray:=⟨#[116,45,108,101,97,118,101,45,97,99,116,105,118,101]⟩
def aXx:ByteArray:=⟨#[116,45,108,101,97,118,101,45,116,111]⟩
def aXm:ByteArray:=⟨#[116,45,109,111,118,101]⟩
def gD:ByteArray:=⟨#[116,45,103,104,111,115,116]⟩
def mDx:ByteArray:=⟨#[116,45,100,120]⟩
def mDy:ByteArray:=⟨#[116,45,100,121]⟩
def Wf(x:LK):Bool:=decide (x.kind=5) || decide (x.kind=6)
def kF(x:LK):Bool:=decide (x.kind=4) || Wf x
def mT(x:LK):Ls:=if x.kind=1 then [aSc] else if x.kind=2 then [aXd,aQp] else if x.kind=3 then [aQp,aXt] else if x.kind=4 then [aR3] else if x.kind=5 then [aWh,aRp] else if x.kind=6 then [aRp,aXx] else []
def fX(x:LK):Ls:=if x.move=0 then mT x else mT x++ [aXm]
theorem Cc(x:LK):(mT x).length<=2:=by unfold mT;(repeat' split) <;> simp
theorem vM(x:LK):(fX x).length<=3:=by unfold fX;have:=Cc x;split <;> simp <;> omega
theorem aRi(x:LK)(σ:List (List D))  :Ct prog 223 [Ao x] σ (fun r σ'=>r= .bool (Wf x)/\σ'=σ):=by
 refine zf func223 ?_;refine aZ fun _ _ Z=>?_;simp;apply Z;refine iU ⟨[],[],[],[],[]⟩ fun all hall _ Z=>?_;have ga3:aK all 3=some 6:=hall 3;refine zs 4 fun _ Y=>?_;simp[ga3];apply Y;refine zb 6 ?_ ?_<;>intro g1<;>try simp at g1
 .simp[ga3];apply Z;apply aD;simp [aJ,Wf, *]
 simp[ga3];apply Z;apply aD;simp [aJ,Wf, *]
theorem aMt(x:LK)(σ:List (List D))  :Ct prog 181 [Ao x] σ (fun r σ'=>r= .bool (kF x)/\σ'=σ):=by
 refine zf func181 ?_;refine aZ fun _ _ Z=>?_;simp;apply Z;refine iU ⟨[],[],[],[],[]⟩ fun all hall _ Z=>?_;have ga3:aK all 3=some 6:=hall 3;refine zs 4 fun _ Y=>?_;simp[ga3];apply Y;refine zb 6 ?_ ?_<;>intro g1<;>try simp at g1
 .simp[ga3];apply Z;apply aD;simp [aJ,kF, *]
 refine zs 1 fun _ Y=>?_;simp[ga3];apply Y;refine zg ga3 fun _ Y=>?_;simp[ga3];refine bS (aRi x _) ?_;apply Y;simp[ga3];apply Z;apply aD;simp [aJ,kF, *]
theorem aJj(x:LK)(σ:List (List D))  :Ct prog 222 [Ao x] σ (fun r σ'=>r= .sl true ((mT x).map D.str)/\σ'=σ):=by
 refine zf func222 ?_;refine zr ⟨[2],[],[],[],[]⟩ fun _ _ Z=>?_;simp(disch:=omega)[cD];apply Z;apply aF;refine zr ⟨[2],[],[],[],[]⟩ fun _ _ Z=>?_;simp(disch:=omega)[cD];apply Z;apply aR;refine zr ⟨[2],[],[],[],[]⟩ fun _ _ Z=>?_;simp(disch:=omega)[cD];apply Z;refine zI ?_ ?_<;>intro c1<;>try simp at c1
 .refine zr ⟨[2],[],[],[],[]⟩ fun _ _ Z=>?_;simp(disch:=omega)[cD];and_intros<;>(try omega);apply Z;apply aD;simp [aJ,mT, *];first | done | rfl | exact⟨rfl,rfl⟩ | exact⟨rfl,rfl,rfl⟩
 refine zr ⟨[2],[],[],[],[]⟩ fun _ _ Z=>?_;simp(disch:=omega)[cD];apply Z;refine zI ?_ ?_<;>intro c2<;>try simp at c2
 .refine zr ⟨[2],[],[],[],[]⟩ fun _ _ Z=>?_;simp(disch:=omega)[cD];and_intros<;>(try omega);apply Z;apply aD;simp [aJ,mT, *];first | done | rfl | exact⟨rfl,rfl⟩ | exact⟨rfl,rfl,rfl⟩
 refine zr ⟨[2],[],[],[],[]⟩ fun _ _ Z=>?_;simp(disch:=omega)[cD];apply Z;refine zI ?_ ?_<;>intro c3<;>try simp at c3
 .refine zr ⟨[2],[],[],[],[]⟩ fun _ _ Z=>?_;simp(disch:=omega)[cD];and_intros<;>(try omega);apply Z;apply aD;simp [aJ,mT, *];first | done | rfl | exact⟨rfl,rfl⟩ | exact⟨rfl,rfl,rfl⟩
 refine zr ⟨[2],[],[],[],[]⟩ fun _ _ Z=>?_;simp(disch:=omega)[cD];apply Z;refine zI ?_ ?_<;>intro c4<;>try simp at c4
 .refine zk [2] ?_;refine zr ⟨[2],[],[],[],[]⟩ fun _ _ Z=>?_;simp(disch:=omega)[cD];and_intros<;>(try omega);apply Z;apply aD;simp [aJ,mT, *];first | done | rfl | exact⟨rfl,rfl⟩ | exact⟨rfl,rfl,rfl⟩
 refine zk [2,4] ?_;refine zr ⟨[2],[],[],[],[]⟩ fun _ _ Z=>?_;simp(disch:=omega)[cD];apply Z;refine zI ?_ ?_<;>intro c5<;>try simp at c5
 .refine zr ⟨[2],[],[],[],[]⟩ fun _ _ Z=>?_;simp(disch:=omega)[cD];and_intros<;>(try omega);apply Z;apply aD;simp [aJ,mT, *];first | done | rfl | exact⟨rfl,rfl⟩ | exact⟨rfl,rfl,rfl⟩
 refine zr ⟨[2],[],[],[],[]⟩ fun _ _ Z=>?_;simp(disch:=omega)[cD];apply Z;refine zI ?_ ?_<;>intro c6<;>try simp at c6
 .refine zr ⟨[2],[],[],[],[]⟩ fun _ _ Z=>?_;simp(disch:=omega)[cD];and_intros<;>(try omega);apply Z;apply aD;simp [aJ,mT, *];first | done | rfl | exact⟨rfl,rfl⟩ | exact⟨rfl,rfl,rfl⟩
 apply nD;refine zr ⟨[2],[],[],[],[]⟩ fun _ _ Z=>?_;simp(disch:=omega)[cD];apply Z;apply aD;simp [aJ,mT, *];first | done | rfl | exact⟨rfl,rfl⟩ | exact⟨rfl,rfl,rfl⟩
@[simp] abbrev q37_2:Cfg:=⟨[2,3,9,12],[],[],[],[]⟩
theorem Us(x:LK)(σ:List (List D))  :Ct prog 180 [Ao x] σ (fun r σ'=>r= .sl true ((fX x).map D.str)/\σ'=σ):=by
 refine zf func180 ?_;have hml:=Cc x;refine zr q37_2 fun _ _ Z=>?_;simp(disch:=omega);apply Z;refine zr q37_2 fun _ _ Z=>?_;refine zs 1 fun _ Y=>?_;simp(disch:=omega);apply Y;refine aE fun _ Y=>?_;simp(disch:=omega);refine bS (aJj x _) ?_;apply Y;simp(disch:=omega);apply Z;apply aF;refine zr q37_2 fun _ _ Z=>?_;simp(disch:=omega);apply Z;refine zI ?_ ?_<;>intro c1<;>try simp at c1
 .refine zt q37_2 fun _ _ Z=>?_;simp(disch:=omega);and_intros<;>(try omega);apply Z;apply bY;refine zk [2,3] ?_;refine zr q37_2 fun _ _ Z=>?_;simp(disch:=omega);apply Z;apply aD;simp [aJ,fX, *];first | done | rfl
 apply zA;refine zr q37_2 fun _ _ Z=>?_;simp(disch:=omega);apply Z;apply aD;simp [aJ,fX, *];first | done | rfl
@[simp] abbrev q37_3:Cfg:=⟨[0,4,25,26],[],[],[],[10,12,19,20,22,24,25]⟩
theorem aFq(n:Nat)(σ:List (List D))(hn:n<=1000000):Ct prog 221 [.v (.slice none 0 0),D.int n] σ (fun r σ'=>wJ 1 [] r/\σ'=σ):=by
 refine zf func221 ?_;refine zr q37_3 fun _ _ Z=>?_;simp(disch:=first|omega|assumption);apply Z;apply aF;refine zr q37_3 fun _ _ Z=>?_;simp(disch:=first|omega|assumption);apply Z;refine zI ?_ ?_<;>intro c1<;>try simp at c1
 .exfalso;omega
 apply zA;apply aF;refine zr q37_3 fun _ _ Z=>?_;simp(disch:=first|omega|assumption);and_intros<;>try first|omega|exact rfl
 apply Z;refine zr q37_3 fun _ _ Z=>?_;simp(disch:=first|omega|assumption);apply Z;refine zI ?_ ?_<;>intro c2<;>try simp at c2
 .refine zk [0,1,4] ?_;refine zt q37_3 fun _ _ Z=>?_;refine zs 8 fun _ Y=>?_;simp(disch:=first|omega|assumption);and_intros<;>try first|omega|exact rfl
  apply Y;simp(disch:=first|omega|assumption);and_intros<;>try first|omega|exact rfl
  apply Z;apply bY;refine zk [0,4] ?_;refine zr q37_3 fun _ _ Z=>?_;simp(disch:=first|omega|assumption);apply Z;apply aD;simp [aJ,wJ]
 apply zA;refine zk [0,4] ?_;refine zr q37_3 fun _ _ Z=>?_;simp(disch:=first|omega|assumption);apply Z;apply aD;simp [aJ,wJ]
theorem aMc(n:Nat)(σ:List (List D))(hn:n<=1000000):Ct prog 221 [.v (.slice none 0 0),D.int n] σ (fun r σ'=>r= .xs 1 []/\σ'=σ):=(aFq n σ hn).toX fun _ _ h=>h
def Bn(a b:Ls)(k:Nat):Ls:=if k=0 then [] else if k=1 then a else a++b
theorem Xj(a b:Ls)(k:Nat):(Bn a b k).length<=a.length+b.length:=by
 unfold Bn;(repeat' split) <;> simp
def atK(a b:Ls)(k:Nat):Ls:=if k=0 then a else b
theorem aCk(a b:Ls)(k:Nat):(atK a b k).length<=a.length+b.length:=by unfold atK;split <;> omega
theorem aPi(a b:Ls)(k:Nat):k<2->([D.sl false (a.map D.str),D.sl false (b.map D.str)][k]?).getD D.any= .sl false ((atK a b k).map D.str):=by
 intro h
 match k,h with
 | 0,_=>rfl
 | 1,_=>rfl
theorem Pn {a b:Ls} {k:Nat} (h:k<2):Bn a b (k+1)=Bn a b k++atK a b k:=by
 match k,h with
 | 0,_=>simp [Bn,atK]
 | 1,_=>simp [Bn,atK]
theorem aH3 {a b:Ls} {k:Nat} (h:k<2):(Bn a b (k+1)).length=(Bn a b k).length+(atK a b k).length:=by rw [Pn h,bB]
@[simp] abbrev q37_4:Cfg:=⟨[2,6,24,31,33,35],[],[],[33],[]⟩
theorem Xi(a b:Ls)(σ:List (List D))(ha:a.length<=99999)(hb:b.length<=99999):Ct prog 179 [.sl false [.sl false (a.map D.str),.sl false (b.map D.str)]] σ (fun r σ'=>r= .xs 1 ((a++b).map D.str)/\σ'=σ):=by
 refine zf func179 ?_;have hget:=aPi a b;refine zr q37_4 fun _ _ Z=>?_;simp(disch:=first|omega|assumption)[hget];apply Z;refine zr q37_4 fun _ _ Z=>?_;simp(disch:=first|omega|assumption)[hget];apply Z;apply aF;refine zr q37_4 fun _ _ Z=>?_;simp(disch:=first|omega|assumption)[hget];and_intros<;>try first|omega|exact rfl
 apply Z;apply aR;refine zk [0,2,3,9,10,11] ?_;refine bA (fun(k:Nat)=> [(11,.d (.v (.int .i64 (k:Int)))),(3,.d (.int (((Bn a b k).length:Nat):Int))),(5,.d (.any))]) [3,5,11,12,13,14,15,16,17,18,19,20,21,22] (fun(k:Nat)=>k<=2) (fun(k:Nat)=>2 - k) (0) (by simp <;> rfl) ?_ ?_ ?_
 .simp [Bn]
 .simp
 rintro k hk;simp only [aQ,aP];have hqs:=Xj a b k;have hql:=aCk a b k;refine zr q37_4 fun _ _ Z=>?_;simp(disch:=first|omega|assumption)[hget];apply Z;apply aF;refine zI ?_ ?_<;>intro c1<;>try simp at c1
 .have hsu:=aH3 (a:=a) (b:=b) (k:=k) (by omega);apply kB;refine zr q37_4 fun _ _ Z=>?_;simp(disch:=first|omega|assumption)[hget];and_intros<;>try first|omega|exact rfl
  apply Z;refine zr q37_4 fun _ _ Z=>?_;simp(disch:=first|omega|assumption)[hget];and_intros<;>try first|omega|exact rfl
  apply Z;refine zk [0,2,3,5,9,10,11] ?_;refine zr q37_4 fun _ _ Z=>?_;simp(disch:=first|omega|assumption)[hget];apply Z;refine zI ?_ ?_<;>intro c2<;>try simp at c2
  .exfalso;omega
  apply nD;refine zt q37_4 fun _ _ Z=>?_;simp(disch:=first|omega|assumption)[hget];and_intros<;>try first|omega|exact rfl
  apply Z;refine zq (k+1) ?_ ?_ ?_
  .omega
  .try dsimp only
   omega
  simp(disch:=first|omega|assumption)[hget,hsu]
 obtain rfl:k=2:=by omega
 have h2:(Bn a b 2).length=a.length+b.length:=by simp [Bn]
 rw [h2];apply zE;refine zr q37_4 fun _ _ Z=>?_;refine zs 1 fun _ Y=>?_;simp(disch:=first|omega|assumption)[hget];apply Y;refine aE fun _ Y=>?_;simp(disch:=first|omega|assumption)[hget];refine bS (aMc (a.length+b.length) _ (by omega)) ?_;apply Y;simp(disch:=first|omega|assumption)[hget];apply Z;apply aF;refine zr q37_4 fun _ _ Z=>?_;simp(disch:=first|omega|assumption)[hget];and_intros<;>try first|omega|exact rfl
 apply Z;apply aR;refine zk [2,6,25,26,27] ?_;refine bA (fun(k:Nat)=> [(27,.d (.v (.int .i64 (k:Int)))),(6,.d (.xs 1 ((Bn a b k).map D.str))),(8,.d (.any))]) [6,8,27,28,29,30,31,32,33,34] (fun(k:Nat)=>k<=2) (fun(k:Nat)=>2 - k) (0) (by simp <;> rfl) ?_ ?_ ?_
 .simp [Bn]
 .simp
 rintro k hk;simp only [aQ,aP];have hqs:=Xj a b k;have hql:=aCk a b k;refine zr q37_4 fun _ _ Z=>?_;simp(disch:=first|omega|assumption)[hget];apply Z;apply aF;refine zI ?_ ?_<;>intro c3<;>try simp at c3
 .have hnx:=Pn (a:=a) (b:=b) (k:=k) (by omega);apply kB;refine zr q37_4 fun _ _ Z=>?_;simp(disch:=first|omega|assumption)[hget];and_intros<;>try first|omega|exact rfl
  apply Z;refine zt q37_4 fun _ _ Z=>?_;simp(disch:=first|omega|assumption)[hget];and_intros<;>try first|omega|exact rfl
  apply Z;apply zB;refine zk [2,6,8,25,26,27] ?_;refine zt q37_4 fun _ _ Z=>?_;simp(disch:=first|omega|assumption)[hget];and_intros<;>try first|omega|exact rfl
  apply Z;refine zq (k+1) ?_ ?_ ?_
  .omega
  .try dsimp only
   omega
  simp(disch:=first|omega|assumption)[hget,hnx]
 obtain rfl:k=2:=by omega
 apply zE;refine zr q37_4 fun _ _ Z=>?_;simp(disch:=first|omega|assumption)[hget];apply Z;apply aD;simp [aJ,Bn]
theorem Zu(a b:Ls)(σ:List (List D))(ha:a.length<=99999)(hb:b.length<=99999):Ct prog 179 [.sl false [.sl false (a.map D.str),.sl false (b.map D.str)]] σ (fun r σ'=>r= .sl false ((a++b).map D.str)/\σ'=σ):=(Xi a b σ ha hb).freeze fun r σ' h=>h
def wT(x:LK)(o:OW):List AT:=if kF x=true then eO nA (iB nA o.attrs) ⟨gD,⟨#[]⟩⟩else iB nA o.attrs
def wS(x:LK)(o:OW):List PI:=if x.move=1 then eO nP (eO nP (iB nP o.styles) ⟨mDx,x.DX⟩) ⟨mDy,x.DY⟩else iB nP o.styles
def jX(x:LK)(o:OW):OW:=⟨bP (o.classes++fX x),wT x o,wS x o⟩
theorem aSd(N:Nat)(o:OW):Sc N (vX o):=Sc.agg fun d hd=>by
 simp only [bQ,gS,gW] at hd;rcases hd with rfl | rfl | rfl
 .exact Sc.sl (Sc.map fun a=>Sf _ a)
 .exact Sc.sl (Sc.map fun a=>Rp _ a)
 exact Sc.sl (Sc.map fun a=>Sb _ a)
theorem aIr(x:LK)(o:OW)(σ:List (List D))(h1:o.classes.length<=9999)(h2:o.attrs.length<=9999)(h3:o.styles.length<=9999):Ct prog 95 [Ao x,vX o] σ (fun r σ'=>(r.plain=true/\r.strip=vX (jX x o))/\∃J,σ'=σ++J):=by
 refine zf func95 ?_;have hcl:=vM x;have ha:=iC nA o.attrs;have hp:=iC nP o.styles;have hsa:=fJ nA o.attrs;have hsp:=fJ nP o.styles;have hpl:=rK nP (iB nP o.styles) ⟨mDx,x.DX⟩;refine zr ⟨[],[],[5],[],[]⟩ fun _ _ Z=>?_;simp(disch:=omega)[aH,aG,cD];apply Z;refine zd ⟨[],[],[5],[],[]⟩ [.op {},.op {rL:=true},.op {rL:=true},.pure,.op {},.pure,.pure,.op {},.op {rL:=true},.pure,.op {},.op {rL:=true},.pure,.op {},.op {rO:=true,wO:=true},.op {rO:=true,wO:=true}] fun all hall _ Z=>?_;refine lY 3 fun _ Y=>?_;simp(disch:=omega)[aH,aG,cD];apply Y;refine cF fun _ Y=>?_;simp(disch:=omega)[aH,aG,cD];refine Aa (fun _=>(Us x _)) ?_;apply Y;refine lY 1 fun _ Y=>?_;simp(disch:=omega)[aH,aG,cD];and_intros<;>(try omega);apply Y;refine cF fun _ Y=>?_;simp(disch:=omega)[aH,aG,cD];refine Aa (fun _=>(Zu o.classes (fX x) _ (by omega) (by omega))) ?_;apply Y;refine cF fun _ Y=>?_;simp(disch:=omega)[aH,aG,cD];refine Aa (fun _=>(Cy (o.classes++fX x) _ (by simp;omega))) ?_;apply Y;refine lY 2 fun _ Y=>?_;simp(disch:=omega)[aH,aG,cD];apply Y;refine cF fun _ Y=>?_;simp(disch:=omega)[aH,aG,cD];refine Aa (fun _=>(aC1 o.attrs _ (by omega))) ?_;apply Y;refine lY 2 fun _ Y=>?_;simp(disch:=omega)[aH,aG,cD];apply Y;refine cF fun _ Y=>?_;simp(disch:=omega)[aH,aG,cD];refine Aa (fun _=>(aBx o.styles _ (by omega))) ?_;apply Y;simp(disch:=omega)[aH,aG,cD];and_intros<;>(try omega);apply Z;apply aF;refine zk [2,4,5] ?_;refine zr ⟨[],[],[5],[],[]⟩ fun _ _ Z=>?_;refine zs 1 fun _ Y=>?_;simp(disch:=omega)[aH,aG,cD];apply Y;refine aE fun _ Y=>?_;simp(disch:=omega)[aH,aG,cD];refine bS (aMt x _) ?_;apply Y;simp only [cX];apply Z;refine zI ?_ ?_<;>intro c1<;>try simp at c1
 .refine zt ⟨[],[],[5],[],[]⟩ fun _ _ Z=>?_;refine zs 2 fun _ Y=>?_;simp(disch:=omega)[aH,aG,cD];apply Y;refine aE fun _ Y=>?_;simp(disch:=omega)[aH,aG,cD];refine bS (aC7 (iB nA o.attrs) gD ⟨#[]⟩ _ (by omega) hsa) ?_;apply Y;simp(disch:=omega)[aH,aG,cD];apply Z;apply bY;apply aF;refine zr ⟨[],[],[5],[],[]⟩ fun _ _ Z=>?_;simp(disch:=omega)[aH,aG,cD];apply Z;refine zI ?_ ?_<;>intro c2<;>try simp at c2
  .refine zk [2,4,5] ?_;refine ze ⟨[],[],[5],[],[]⟩ [.op {},.op {rO:=true},.op {},.op {rL:=true},.pure,.op {},.op {rL:=true},.pure,.op {},.op {rO:=true,wO:=true}] fun all hall _ Z=>?_;refine lY 4 fun _ Y=>?_;simp(disch:=omega)[aH,aG,cD];apply Y;refine cF fun _ Y=>?_;simp(disch:=omega)[aH,aG,cD];refine Aa (fun _=>(Cl (iB nP o.styles) mDx x.DX _ (by omega) hsp)) ?_;apply Y;refine lY 2 fun _ Y=>?_;simp(disch:=omega)[aH,aG,cD];apply Y;refine cF fun _ Y=>?_;simp(disch:=omega)[aH,aG,cD];refine Aa (fun _=>(Cl (eO nP (iB nP o.styles) ⟨mDx,x.DX⟩) mDy x.DY _ (by omega) (jL nP hsp _))) ?_;apply Y;simp(disch:=omega)[aH,aG,cD];apply Z;apply bY;refine zk [4,5] ?_;refine zr ⟨[],[],[5],[],[]⟩ fun _ _ Z=>?_;simp(disch:=omega)[aH,aG,cD];apply Z;apply aD;simp [aJ,jX,wT,wS, *]
  apply zA;refine zk [4,5] ?_;refine zr ⟨[],[],[5],[],[]⟩ fun _ _ Z=>?_;simp(disch:=omega)[aH,aG,cD];apply Z;apply aD;simp [aJ,jX,wT,wS, *]
 apply zA;apply aF;refine zr ⟨[],[],[5],[],[]⟩ fun _ _ Z=>?_;simp(disch:=omega)[aH,aG,cD];apply Z;refine zI ?_ ?_<;>intro c3<;>try simp at c3
 .refine ze ⟨[],[],[5],[],[]⟩ [.op {},.op {rO:=true},.op {},.op {rL:=true},.pure,.op {},.op {rL:=true},.pure,.op {},.op {rO:=true,wO:=true}] fun all hall _ Z=>?_;refine lY 4 fun _ Y=>?_;simp(disch:=omega)[aH,aG,cD];apply Y;refine cF fun _ Y=>?_;simp(disch:=omega)[aH,aG,cD];refine Aa (fun _=>(Cl (iB nP o.styles) mDx x.DX _ (by omega) hsp)) ?_;apply Y;refine lY 2 fun _ Y=>?_;simp(disch:=omega)[aH,aG,cD];apply Y;refine cF fun _ Y=>?_;simp(disch:=omega)[aH,aG,cD];refine Aa (fun _=>(Cl (eO nP (iB nP o.styles) ⟨mDx,x.DX⟩) mDy x.DY _ (by omega) (jL nP hsp _))) ?_;apply Y;simp(disch:=omega)[aH,aG,cD];apply Z;apply bY;refine zk [4,5] ?_;refine zr ⟨[],[],[5],[],[]⟩ fun _ _ Z=>?_;simp(disch:=omega)[aH,aG,cD];apply Z;apply aD;simp [aJ,jX,wT,wS, *]
 apply zA;refine zr ⟨[],[],[5],[],[]⟩ fun _ _ Z=>?_;simp(disch:=omega)[aH,aG,cD];apply Z;apply aD;simp [aJ,jX,wT,wS, *]
theorem aOc(x:LK)(o:OW)(σ:List (List D))(h1:o.classes.length<=9999)(h2:o.attrs.length<=9999)(h3:o.styles.length<=9999):Ct prog 95 [Ao x,vX o] σ (fun r σ'=>r=vX (jX x o)/\σ'=σ):=
 have h:Ct prog 95 [Ao x,vX o] σ (fun r σ'=>r=vX (jX x o)/\∃J,σ'=σ++J):=(aIr x o σ h1 h2 h3).strip fun r σ' h=>⟨h.1.1,h.1.2,h.2⟩
 h.trim fun r σ' ⟨hr,J,hs⟩=>⟨σ,J,hs,rfl,by rw [hr];exact aSd _ _,fun n cs h=> .inl h,hr,rfl⟩
theorem Ov(x:LK):(decide (4<=x.kind) && decide (x.kind<=6))=kF x:=by
 unfold kF Wf;rw [iP];simp only [gH,vG,fF];omega
def aLh(i:Nat):Ls:=match i with
 | 0=> [aSc]
 | 1=> [aXd,aQp]
 | 2=> [aQp,aXt]
 | 3=> [aR3]
 | 4=> [aWh,aRp]
 | _=> [aRp,aXx]
theorem aE6(x:LK)(h1:1<=x.kind)(h2:x.kind<=6):aLh (x.kind - 1).toNat=mT x:=by
 unfold mT;rcases(by omega:x.kind=1\/x.kind=2\/x.kind=3\/x.kind=4\/x.kind=5\/x.kind=6)with h | h | h | h | h | h <;> rw [h] <;> rfl
theorem Og(x:LK)(h:¬(1<=x.kind/\x.kind<=6)):mT x= []:=by
 unfold mT
 (repeat' split) <;> first | rfl | omega
theorem wG: [0,1,2,3,4,5]=List.range 6:=by decide
theorem aAw(i:Nat)(h:i<6):([D.sl false [D.v (.string ⟨#[116,45,119,97,105,116]⟩)],D.sl false [D.v (.string ⟨#[116,45,101,110,116,101,114,45,102,114,111,109]⟩),D.v (.string ⟨#[116,45,101,110,116,101,114,45,97,99,116,105,118,101]⟩)],D.sl false [D.v (.string ⟨#[116,45,101,110,116,101,114,45,97,99,116,105,118,101]⟩),D.v (.string ⟨#[116,45,101,110,116,101,114,45,116,111]⟩)],D.sl false [D.v (.string ⟨#[116,45,104,111,108,100]⟩)],D.sl false [D.v (.string ⟨#[116,45,108,101,97,118,101,45,102,114,111,109]⟩),D.v (.string ⟨#[116,45,108,101,97,118,101,45,97,99,116,105,118,101]⟩)],D.sl false [D.v (.string ⟨#[116,45,108,101,97,118,101,45,97,99,116,105,118,101]⟩),D.v (.string ⟨#[116,45,108,101,97,118,101,45,116,111]⟩)]][i]?).getD D.any= .sl false ((aLh i).map D.str):=by
 match i,h with
 | 0,_=>rfl
 | 1,_=>rfl
 | 2,_=>rfl
 | 3,_=>rfl
 | 4,_=>rfl
 | 5,_=>rfl
theorem iF(x:LK)(σ:List (List D))  :Ct prog 37 [Ao x] σ (fun r σ'=>r= .bool (kF x)/\σ'=σ):=by
 refine zf func37 ?_;refine aZ fun _ _ Z=>?_;simp;apply Z;refine iU ⟨[],[],[],[],[]⟩ fun all hall _ Z=>?_;have ga3:aK all 3=some 6:=hall 3;refine zs 4 fun _ Y=>?_;simp[ga3];apply Y;refine zb 6 ?_ ?_<;>intro g1<;>try simp at g1
 .simp[ga3];apply Z;apply aD;simp [aJ,<- Ov, *];try omega
 simp[ga3];apply Z;apply aD;simp [aJ,<- Ov, *];try omega
@[simp] abbrev q37_5:Cfg:=⟨[2,3,13,30,33],[],[],[],[]⟩
theorem Rd(x:LK)(σ:List (List D))  :Ct prog 98 [Ao x] σ (fun r σ'=>r= .sl true ((fX x).map D.str)/\σ'=σ):=by
 refine zf func98 ?_;have hml:=Cc x;refine zr q37_5 fun _ _ Z=>?_;simp(disch:=omega)[cD,wG];apply Z;refine zr q37_5 fun _ _ Z=>?_;simp(disch:=omega)[cD,wG];and_intros<;>(try omega);apply Z;apply aF;refine iU q37_5 fun all hall _ Z=>?_;have ga3:aK all 3=some 8:=hall 3;refine zs 4 fun _ Y=>?_;simp(disch:=omega)[cD,wG,ga3];apply Y;refine zb 8 ?_ ?_<;>intro g1<;>try simp at g1
 .simp(disch:=omega)[cD,wG,ga3];apply Z;refine zI ?_ ?_<;>intro c2<;>try simp at c2
  .have hget:=aAw (x.kind.toNat - 1) (by omega);have hma:=aE6 x (by omega) (by omega);rw [show(x.kind - 1).toNat=x.kind.toNat - 1 by omega] at hma;rw [hma] at hget;refine zk [1,2,3] ?_;refine zt q37_5 fun _ _ Z=>?_;refine zs 8 fun _ Y=>?_;simp(disch:=omega)[cD,wG,hget];and_intros<;>(try omega);apply Y;simp(disch:=omega)[cD,wG,hget];and_intros<;>(try omega);apply Z;apply bY;apply aF;refine zk [1,2,3] ?_;refine zr q37_5 fun _ _ Z=>?_;simp(disch:=omega)[cD,wG,hget];apply Z;refine zI ?_ ?_<;>intro c3<;>try simp at c3
   .refine zt q37_5 fun _ _ Z=>?_;simp(disch:=omega)[cD,wG,hget];and_intros<;>(try omega);apply Z;apply bY;refine zr q37_5 fun _ _ Z=>?_;simp(disch:=omega)[cD,wG,hget];apply Z;apply aD;simp [aJ,fX, *];first | done | rfl
   apply zA;refine zr q37_5 fun _ _ Z=>?_;simp(disch:=omega)[cD,wG,hget];apply Z;apply aD;simp [aJ,fX, *];first | done | rfl
  have hmf:=Og x (by omega);apply zA;apply aF;refine zk [1,2,3] ?_;refine zr q37_5 fun _ _ Z=>?_;simp(disch:=omega)[cD,wG];apply Z;refine zI ?_ ?_<;>intro c4<;>try simp at c4
  .refine zt q37_5 fun _ _ Z=>?_;simp(disch:=omega)[cD,wG];and_intros<;>(try omega);apply Z;apply bY;refine zr q37_5 fun _ _ Z=>?_;simp(disch:=omega)[cD,wG];apply Z;apply aD;simp [aJ,fX, *];first | done | rfl
  apply zA;refine zr q37_5 fun _ _ Z=>?_;simp(disch:=omega)[cD,wG];apply Z;apply aD;simp [aJ,fX, *];first | done | rfl
 have hmf:=Og x (by omega);simp(disch:=omega)[cD,wG,ga3];apply Z;refine aV (t:=false) (by simp) (fun h=>by cases h) (fun _=>?_);apply zA;apply aF;refine zk [1,2,3] ?_;refine zr q37_5 fun _ _ Z=>?_;simp(disch:=omega)[cD,wG];apply Z;refine zI ?_ ?_<;>intro c5<;>try simp at c5
 .refine zt q37_5 fun _ _ Z=>?_;simp(disch:=omega)[cD,wG];and_intros<;>(try omega);apply Z;apply bY;refine zr q37_5 fun _ _ Z=>?_;simp(disch:=omega)[cD,wG];apply Z;apply aD;simp [aJ,fX, *];first | done | rfl
 apply zA;refine zr q37_5 fun _ _ Z=>?_;simp(disch:=omega)[cD,wG];apply Z;apply aD;simp [aJ,fX, *];first | done | rfl
end Go.Proofs.YtbgfljpnhhdkoaaGreat
