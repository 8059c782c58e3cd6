import Derived.Test.YtbgfljpnhhdkoaaGreatWkVi7
set_option linter.all false
set_option maxRecDepth 20000
set_option maxHeartbeats 8000000
open Go.Proofs.Tryz
namespace Go.Proofs.YtbgfljpnhhdkoaaGreat
open Go Go.Vm
variable {v:VN}
structure TN where
 ID:Int
 kind:Int
 tag:ByteArray
 text:ByteArray
 classes:(List ByteArray)
 attrs:(List AT)
 styles:(List PI)
 kids:(List TN)
def Mn(s:TN):D:= .agg [.v (.int .i64 s.ID),.v (.int .i64 s.kind),.v (.string s.tag),.v (.string s.text),.sl false (s.classes.map D.str),.sl false (s.attrs.map cW),.sl false (s.styles.map cQ),.sl false (s.kids.attach.map fun k=>Mn k.1)]
termination_by SizeOf.sizeOf s
decreasing_by
 have h:=nS k.2;cases s;simp at h |-;omega
@[simp] abbrev rQ(s:TN):D:= .agg [.v (.int .i64 s.ID),.v (.int .i64 s.kind),.v (.string s.tag),.v (.string s.text),.sl false (s.classes.map D.str),.sl false (s.attrs.map cW),.sl false (s.styles.map cQ),.sl false (s.kids.map Mn)]
@[simp] abbrev aZ6(s:TN):D:= .agg [.v (.int .i64 s.ID),.v (.int .i64 s.kind),.v (.string s.tag),.v (.string s.text),.sl true (s.classes.map D.str),.sl true (s.attrs.map cW),.sl true (s.styles.map cQ),.sl true (s.kids.map Mn)]
@[simp] theorem aPe(s:TN):Mn s=rQ s:=by rw [Mn];simp
theorem aM4(N:Nat)(t:TN):Sc N (rQ t):=Sc.agg fun d hd=>by
 simp only [bP,gY,gZ] at hd;rcases hd with rfl | rfl | rfl | rfl | rfl | rfl | rfl | rfl
 .exact Sc.v _
 .exact Sc.v _
 .exact Sc.v _
 .exact Sc.v _
 .exact Sc.sl (Sc.map fun a=>Ry _ a)
 .exact Sc.sl (Sc.map fun a=>Qj _ a)
 .exact Sc.sl (Sc.map fun a=>Qq _ a)
 refine Sc.sl fun d hd=>?_;obtain⟨k,hk,e⟩:=aU.1 hd;rw [<- e,aPe];exact aM4 N k
termination_by SizeOf.sizeOf t
decreasing_by
 have h:=nS hk;cases t;simp at h |-;omega
def Hm(t:TN):Nat:=1+(t.kids.attach.map fun k=>Hm k.1).sum
termination_by SizeOf.sizeOf t
decreasing_by
 have h:=nS k.2;cases t;simp at h |-;omega
theorem aOz(t:TN):Hm t=1+(t.kids.map Hm).sum:=by rw [Hm];simp
theorem Cn {v k:TN} (h:k∈v.kids):Hm k+1<=Hm v:=by
 rw [aOz v];have:∀l:List TN,k∈l->Hm k<=(l.map Hm).sum:=by
  intro l;induction l with
  | nil=>intro h;cases h
  | cons a l ih=>
   intro h;simp only [cD,jQ];rcases bP.1 h with rfl | h
   .omega
   have:=ih h;omega
 have:=this v.kids h;omega
abbrev TSz(t:TN):Prop:=t.classes.length<=9999/\t.attrs.length<=9999/\t.styles.length<=9999/\t.kids.length<=9999
inductive TB:TN->Prop
 | mk (t:TN) (h:TSz t) (hk:∀k∈t.kids,TB k):TB t
theorem TB.s {t:TN} (h:TB t):TSz t:=by cases h;assumption
theorem TB.k {t:TN} (h:TB t):∀k∈t.kids,TB k:=by cases h;assumption
def tkT(l:List TN)(k:Nat):List TN:=l.take k
theorem aHu(l:List TN):tkT l 0= []:=rfl
theorem aJz(l:List TN)(k:Nat)(h:k<l.length):tkT l (k+1)=tkT l k++ [l[k]]:=bN l k h
theorem aPl(l:List TN)(k:Nat):(tkT l k).length<=k:=by unfold tkT;rw [bE];omega
theorem aNk(l:List TN):tkT l l.length=l:=dS
abbrev aRm(t:TN):Prop:=∀σ:List (List D),Ct prog 36 [rQ t] σ (fun r σ'=>r=rQ t/\σ'=σ)
@[simp] abbrev q34_1:Cfg:=⟨[31,45,59],[],[3],[],[]⟩
theorem aI9(t:TN)(σ:List (List D))(h:TSz t)(ih:∀k∈t.kids,aRm k):Ct prog 36 [rQ t] σ (fun r σ'=>(r.plain=true/\r.strip=rQ t)/\∃J,σ'=σ++J):=by
 refine zf func36 ?_;obtain⟨h1,h2,h3,h4⟩:=h;refine zr q34_1 fun _ _ Z=>?_;simp(disch:=omega)[aJ,aG];apply Z;refine zd q34_1 [.op {},.op {rL:=true},.op {},.op {rL:=true},.op {},.op {rL:=true},.op {},.op {rL:=true},.op {},.op {},.op {rL:=true},.op {},.op {},.op {rO:=true,wO:=true},.op {rO:=true,wO:=true}] fun all hall _ Z=>?_;refine lM 8 fun _ Y=>?_;simp(disch:=omega)[aJ,aG];apply Y;simp(disch:=omega)[aJ,aG];and_intros<;>(try omega);apply Z;apply aF;refine zk [1,2,3] ?_;refine zr q34_1 fun _ _ Z=>?_;simp(disch:=omega)[aJ,aG];and_intros<;>(try omega);apply Z;apply aR;refine zk [1,2,3,24,25,26] ?_;refine kE (fun(k:Nat)=> [(26,.d (.v (.int .i64 (k:Int))))]) (fun(k:Nat)=> []) (fun(k:Nat)=> [(σ.length, [D.int t.ID,D.int t.kind,D.str t.tag,D.str t.text,.sl false (t.classes.map D.str),.sl true ((tkA t.attrs k).map cW),.sl true ((tkP t.styles 0).map cQ),.sl true ((tkT t.kids 0).map Mn)])]) [5,26,27,28,29,30,31,32,33,34,35,36] (fun(k:Nat)=>k<=t.attrs.length) (fun(k:Nat)=>t.attrs.length - k) (0) (by simp <;> rfl) ?_ (by simp) (by simp [aJ,aRg,aG9,aHu]) ?_ ?_
 .simp
 .simp
 rintro k hk;simp only [aQ,aP,lJ,jS,gE,fV];have htl:=aCg t.attrs k;refine zr q34_1 fun _ _ Z=>?_;simp(disch:=omega)[aJ,aG];apply Z;apply aF;refine zI ?_ ?_<;>intro c1<;>try simp at c1
 .apply jY;refine zr q34_1 fun _ _ Z=>?_;simp(disch:=omega)[aJ,aG];and_intros<;>(try omega);apply Z;refine zt q34_1 fun _ _ Z=>?_;simp(disch:=omega)[aJ,aG];and_intros<;>(try omega);apply Z;apply zB;refine zk [1,2,3,24,25,26] ?_;refine zt q34_1 fun _ _ Z=>?_;simp(disch:=omega)[aJ,aG];and_intros<;>(try omega);apply Z;refine fC (k+1) ?_ ?_ (dU rfl ?_ (by simp) (by simp [Ww, *]))
  .omega
  .try dsimp only
   omega
  simp(disch:=omega)[aJ,aG]
 obtain rfl:k=t.attrs.length:=by omega
 apply zE;apply aF;refine zr q34_1 fun _ _ Z=>?_;simp(disch:=omega)[aJ,aG];and_intros<;>(try omega);apply Z;apply aR;refine zk [1,2,3,38,39,40] ?_;refine kE (fun(i:Nat)=> [(40,.d (.v (.int .i64 (i:Int))))]) (fun(i:Nat)=> []) (fun(i:Nat)=> [(σ.length, [D.int t.ID,D.int t.kind,D.str t.tag,D.str t.text,.sl false (t.classes.map D.str),.sl true ((tkA t.attrs t.attrs.length).map cW),.sl true ((tkP t.styles i).map cQ),.sl true ((tkT t.kids 0).map Mn)])]) [7,40,41,42,43,44,45,46,47,48,49,50] (fun(i:Nat)=>i<=t.styles.length) (fun(i:Nat)=>t.styles.length - i) (0) (by simp <;> rfl) ?_ (by simp) (by simp [aJ,aG9,aHu]) ?_ ?_
 .simp
 .simp
 rintro i hi;simp only [aQ,aP,lJ,jS,gE,fV];have htl1:=aCf t.styles i;refine zr q34_1 fun _ _ Z=>?_;simp(disch:=omega)[aJ,aG];apply Z;apply aF;refine zI ?_ ?_<;>intro c2<;>try simp at c2
 .apply jY;refine zr q34_1 fun _ _ Z=>?_;simp(disch:=omega)[aJ,aG];and_intros<;>(try omega);apply Z;refine zt q34_1 fun _ _ Z=>?_;simp(disch:=omega)[aJ,aG];and_intros<;>(try omega);apply Z;apply zB;refine zk [1,2,3,38,39,40] ?_;refine zt q34_1 fun _ _ Z=>?_;simp(disch:=omega)[aJ,aG];and_intros<;>(try omega);apply Z;refine fC (i+1) ?_ ?_ (dU rfl ?_ (by simp) (by simp [Vz, *]))
  .omega
  .try dsimp only
   omega
  simp(disch:=omega)[aJ,aG]
 obtain rfl:i=t.styles.length:=by omega
 apply zE;apply aF;refine zr q34_1 fun _ _ Z=>?_;simp(disch:=omega)[aJ,aG];and_intros<;>(try omega);apply Z;apply aR;refine zk [2,3,52,53,54] ?_;refine kE (fun(j:Nat)=> [(54,.d (.v (.int .i64 (j:Int))))]) (fun(j:Nat)=> []) (fun(j:Nat)=> [(σ.length, [D.int t.ID,D.int t.kind,D.str t.tag,D.str t.text,.sl false (t.classes.map D.str),.sl true ((tkA t.attrs t.attrs.length).map cW),.sl true ((tkP t.styles t.styles.length).map cQ),.sl true ((tkT t.kids j).map Mn)])]) [9,54,55,56,57,58,59,60,61,62,63,64,65] (fun(j:Nat)=>j<=t.kids.length) (fun(j:Nat)=>t.kids.length - j) (0) (by simp <;> rfl) ?_ (by simp) (by simp [aJ,aHu]) ?_ ?_
 .simp
 .simp
 rintro j hj;simp only [aQ,aP,lJ,jS,gE,fV];have htl2:=aPl t.kids j;refine zr q34_1 fun _ _ Z=>?_;simp(disch:=omega)[aJ,aG];apply Z;apply aF;refine zI ?_ ?_<;>intro c3<;>try simp at c3
 .apply jY;refine zr q34_1 fun _ _ Z=>?_;simp(disch:=omega)[aJ,aG];and_intros<;>(try omega);apply Z;refine ze q34_1 [.op {},.op {rO:=true,wO:=true},.op {rL:=true},.pure,.op {},.op {},.op {},.op {rO:=true,wO:=true}] fun all hall _ Z=>?_;refine lM 3 fun _ Y=>?_;simp(disch:=omega)[aJ,aG];apply Y;refine bV fun _ Y=>?_;simp(disch:=omega)[aJ,aG];refine xH (fun _=>(ih t.kids[j] (cB _) _)) ?_;apply Y;simp(disch:=omega)[aJ,aG];and_intros<;>(try omega);apply Z;apply zB;refine zk [2,3,52,53,54] ?_;refine zt q34_1 fun _ _ Z=>?_;simp(disch:=omega)[aJ,aG];and_intros<;>(try omega);apply Z;refine fC (j+1) ?_ ?_ (dU rfl ?_ (by simp) (by simp [aJz, *]))
  .omega
  .try dsimp only
   omega
  simp(disch:=omega)[aJ,aG]
 obtain rfl:j=t.kids.length:=by omega
 rw [aBz,aCi,aNk];apply zE;refine zr q34_1 fun _ _ Z=>?_;simp(disch:=omega)[aJ,aG];apply Z;apply aC;simp [aI]
theorem Su(t:TN)(h:TB t):aRm t:=fun σ=>
 have h1:Ct prog 36 [rQ t] σ (fun r σ'=>r=rQ t/\∃J,σ'=σ++J):=(aI9 t σ h.s fun k hk=>Su k (h.k k hk)).strip fun r σ' h=>⟨h.1.1,h.1.2,h.2⟩
 h1.trim fun r σ' ⟨hr,J,hs⟩=>⟨σ,J,hs,rfl,by rw [hr];exact aM4 _ _,fun n cs h=> .inl h,hr,rfl⟩
termination_by Hm t
decreasing_by
 have:=Cn hk;omega
def Hb(v:VN):TN:=if v.kind=1 then⟨0,1,⟨#[]⟩,v.text, [], [], [], []⟩else⟨0,2,v.tag,⟨#[]⟩,v.classes,v.attrs,v.styles,v.kids.attach.map fun k=>Hb k.1⟩
termination_by SizeOf.sizeOf v
decreasing_by
 have h:=nS k.2;cases v;simp at h |-;omega
theorem Jv(v:VN):Hb v=if v.kind=1 then⟨0,1,⟨#[]⟩,v.text, [], [], [], []⟩else⟨0,2,v.tag,⟨#[]⟩,v.classes,v.attrs,v.styles,v.kids.map Hb⟩:=by
 rw [Hb];simp
def tkO(l:List VN)(k:Nat):List TN:=(l.take k).map Hb
theorem aVr(l:List VN):tkO l 0= []:=rfl
theorem aMo(l:List VN)(k:Nat)(h:k<l.length):tkO l (k+1)=tkO l k++ [Hb l[k]]:=by unfold tkO;rw [bN l k h,cN];rfl
theorem aPg(l:List VN)(k:Nat):(tkO l k).length<=k:=by unfold tkO;rw [bS,bE];omega
theorem aQp(l:List VN):tkO l l.length=l.map Hb:=by unfold tkO;rw [dS]
abbrev OfC(v:VN):Prop:=∀σ:List (List D),Ct prog 109 [iH v] σ (fun r σ'=>r=rQ (Hb v)/\σ'=σ)
@[simp] abbrev q34_2:Cfg:=⟨[15,17,19,29],[],[3],[],[]⟩
theorem aSg(v:VN)(σ:List (List D))(h:VSz v)(ih:∀k∈v.kids,OfC k):Ct prog 109 [iH v] σ (fun r σ'=>(r.plain=true/\r.strip=rQ (Hb v))/\∃J,σ'=σ++J):=by
 refine zf func109 ?_;obtain⟨h1,h2,h3,h4,h5⟩:=h;refine zr q34_2 fun _ _ Z=>?_;simp(disch:=omega)[aJ,aG];apply Z;apply aF;refine zr q34_2 fun _ _ Z=>?_;simp(disch:=omega)[aJ,aG];apply Z;refine zI ?_ ?_<;>intro c1<;>try simp at c1
 .refine zr q34_2 fun _ _ Z=>?_;simp(disch:=omega)[aJ,aG];apply Z;apply aC;simp [aI];rw [Jv,aM c1];simp
 apply zA;refine zr q34_2 fun _ _ Z=>?_;refine zs 8 fun _ Y=>?_;simp(disch:=omega)[aJ,aG];apply Y;simp(disch:=omega)[aJ,aG];and_intros<;>(try omega);apply Z;apply aF;refine zk [1,2,3] ?_;refine zr q34_2 fun _ _ Z=>?_;simp(disch:=omega)[aJ,aG];and_intros<;>(try omega);apply Z;apply aR;refine zk [2,3,22,23,24] ?_;refine kE (fun(j:Nat)=> [(24,.d (.v (.int .i64 (j:Int))))]) (fun(j:Nat)=> []) (fun(j:Nat)=> [(σ.length, [D.int 0,D.int 2,D.str v.tag,D.str ⟨#[]⟩,.sl false (v.classes.map D.str),.sl false (v.attrs.map cW),.sl false (v.styles.map cQ),.sl true ((tkO v.kids j).map Mn)])]) [5,24,25,26,27,28,29,30,31,32,33,34,35] (fun(j:Nat)=>j<=v.kids.length) (fun(j:Nat)=>v.kids.length - j) (0) (by simp <;> rfl) ?_ (by simp) (by simp [aJ,aVr]) ?_ ?_
 .simp
 .simp
 rintro j hj;simp only [aQ,aP,lJ,jS,gE,fV];have htl2:=aPg v.kids j;refine zr q34_2 fun _ _ Z=>?_;simp(disch:=omega)[aJ,aG];apply Z;apply aF;refine zI ?_ ?_<;>intro c2<;>try simp at c2
 .apply jY;refine zr q34_2 fun _ _ Z=>?_;simp(disch:=omega)[aJ,aG];and_intros<;>(try omega);apply Z;refine ze q34_2 [.op {},.op {rO:=true,wO:=true},.op {rL:=true},.pure,.op {},.op {},.op {},.op {rO:=true,wO:=true}] fun all hall _ Z=>?_;refine lM 3 fun _ Y=>?_;simp(disch:=omega)[aJ,aG];apply Y;refine bV fun _ Y=>?_;simp(disch:=omega)[aJ,aG];refine xH (fun _=>(ih v.kids[j] (cB _) _)) ?_;apply Y;simp(disch:=omega)[aJ,aG];and_intros<;>(try omega);apply Z;apply zB;refine zk [2,3,22,23,24] ?_;refine zt q34_2 fun _ _ Z=>?_;simp(disch:=omega)[aJ,aG];and_intros<;>(try omega);apply Z;refine fC (j+1) ?_ ?_ (dU rfl ?_ (by simp) (by simp [aMo, *]))
  .omega
  .try dsimp only
   omega
  simp(disch:=omega)[aJ,aG]
 obtain rfl:j=v.kids.length:=by omega
 rw [aQp];apply zE;refine zr q34_2 fun _ _ Z=>?_;simp(disch:=omega)[aJ,aG];apply Z;apply aC;simp [aI];rw [Jv,aD c1];simp
inductive VB:VN->Prop
 | mk (v:VN) (h:VSz v) (hk:∀k∈v.kids,VB k):VB v
theorem VB.s (h:VB v):VSz v:=by cases h;assumption
theorem VB.k (h:VB v):∀k∈v.kids,VB k:=by cases h;assumption
theorem VG.b:∀ {v:VN},VG v->cT v<=9999->VB v
 | v,h,hc=> .mk v (h.sz hc) fun k hk=>VG.b (h.k k hk) (by have:=dY hk;omega)
termination_by v=>cT v
decreasing_by
 have:=dY hk;omega
theorem Az(v:VN):v=txt v v.text:=by cases v;rfl
theorem aGv {o:List VN} {k x:VN} (h:x∈nV o k):∃y,(y∈o\/y=k)/\∃s,x=txt y s:=by
 unfold nV at h;have hq:x∈o++ [k]->∃y,(y∈o\/y=k)/\∃s,x=txt y s:=fun h=>by
  rcases bQ.1 h with h | h
  .exact⟨x,.inl h,x.text,Az x⟩
  exact⟨k,.inr rfl,k.text,by rw [fP.1 h];exact Az k⟩
 split at h
 .rename_i p hp;split at h
  .rcases Na h with h | h
   .exact⟨x,.inl h,x.text,Az x⟩
   exact⟨p,.inl (List.mem_of_getLast? hp),_,h⟩
  exact hq h
 exact hq h
theorem Om {l:List VN} {x:VN} (h:x∈gV l):∃y∈l,∃s,x=txt y s:=by
 have:∀(l o:List VN),x∈l.foldl nV o->∃y,(y∈o\/y∈l)/\∃s,x=txt y s:=by
  intro l;induction l with
  | nil=>intro o h;exact⟨x,.inl h,x.text,Az x⟩
  | cons a l ih =>
   intro o h;obtain⟨y,hy,s,e⟩:=ih _ h;rcases hy with hy | hy
   .obtain⟨z,hz,s2,e2⟩:=aGv hy;rcases hz with hz | rfl
    .exact⟨z,.inl hz,s,by rw [e,e2];rfl⟩
    exact⟨z,.inr eH,s,by rw [e,e2];rfl⟩
   exact⟨y,.inr (gG _ hy),s,e⟩
 obtain⟨y,hy,h2⟩:=this l [] h;rcases hy with hy | hy
 .cases hy
 exact⟨y,hy,h2⟩
theorem VB.txt (h:VB v)(s:ByteArray):VB (txt v s):= .mk _ h.s h.k
theorem Ss:∀ {v:VN},VG v->cT v<=100->VB (cL v)
 | v, h, hc => by
  rw [lH];obtain⟨a,b,c,d, -⟩:=h.f;have hl:=mP v;have ha:=lB v.classes;have hb:=iD nA v.attrs;have hcl:=iD nP v.styles;have hm:(gV ((v.kids.map cL).filter jI)).length<=v.kids.length:=kV (Nq _) (kV (jD _ _) (by simp));refine .mk _ ⟨by show(bK v.classes).length<=9999;omega,by show(hU nA v.attrs).length<=9999;omega,by show(hU nP v.styles).length<=9999;omega,kV hm (by omega),fun k hk=>?_⟩ fun k hk=>?_
  .have hx:=Gc (l:=(v.kids.map cL).filter jI) (B:=70) (fun k hk=>by
    obtain⟨y,hy,rfl⟩:=aU.1 (dD.1 hk).1;rw [qL];exact(h.k y hy).f.2.2.2.1) _ (bC _) k (by rw [dS];exact hk)
   have h2:((v.kids.map cL).filter jI).length<=100:=kV (jD _ _) (by simp;omega);have h3:((v.kids.map cL).filter jI).length * 70<=100 * 70:=fS _ h2;omega
  obtain⟨y,hy,s,rfl⟩:=Om hk;obtain⟨z,hz,rfl⟩:=aU.1 (dD.1 hy).1;exact(Ss (h.k z hz) (by have:=dY hz;omega)).txt s
termination_by v=>cT v
decreasing_by
 have:=dY hz;omega
theorem aOk(v:VN)(s:ByteArray):cT (txt v s)=cT v:=by rw [jW,jW v];rfl
theorem aCj:∀(o:List VN) (i:Nat) (x:VN) (h:i<o.length),cT x=cT o[i]->((o.set i x).map cT).sum=(o.map cT).sum
 | a::o,0,x,_,e=>by simp at e;simp [e]
 | a::o,i+1,x,h,e=>by
  have:=aCj o i x (by simpa using h) (by simpa using e);simp only [fV,cD,jQ,this]
theorem aM8(o:List VN)(k:VN):((nV o k).map cT).sum<=(o.map cT).sum+cT k:=by
 unfold nV;split
 .rename_i p hp;split
  .rw [Ey] at hp;obtain⟨h1,h2⟩:=aO.1 hp;rw [aCj o _ _ h1 (by rw [aOk,h2])];omega
  simp
 simp
theorem aGc(l:List VN):((gV l).map cT).sum<=(l.map cT).sum:=by
 have:∀(l o:List VN),((l.foldl nV o).map cT).sum<=(o.map cT).sum+(l.map cT).sum:=by
  intro l;induction l with
  | nil=>intro o;simp
  | cons a l ih=>
   intro o;have h1:=ih (nV o a);have h2:=aM8 o a;simp only [dJ,cD,jQ];omega
 have:=this l [];simpa [gV] using this
theorem aAr(l:List VN)(p:VN->Bool):((l.filter p).map cT).sum<=(l.map cT).sum:=by
 induction l with
 | nil=>simp
 | cons a l ih=>
  by_cases h:p a=true
  .rw [qE h];simp;omega
  rw [sC h];simp;omega
theorem aH9 {α:Type} (f g:α->Nat):∀(l:List α),(∀x∈l,f x<=g x)->(l.map f).sum<=(l.map g).sum
 | [],_=>by simp
 | a::l,h=>by
  have:=aH9 f g l fun x hx=>h x (gG _ hx);have:=h a eH;simp;omega
theorem Cv(v:VN):cT (cL v)<=cT v:=by
 rw [jW,jW v,lH];show 1+((gV ((v.kids.map cL).filter jI)).map cT).sum<=_
 have h1:=aGc ((v.kids.map cL).filter jI);have h2:=aAr (v.kids.map cL) jI;rw [eT] at h2;have h3:=aH9 (cT ∘ cL) cT v.kids fun x hx=>Cv x;omega
termination_by cT v
decreasing_by
 have:=dY hx;omega
theorem aM7(v:VN)(h:VB v):OfC v:=fun σ=>
 have h1:Ct prog 109 [iH v] σ (fun r σ'=>r=rQ (Hb v)/\∃J,σ'=σ++J):=(aSg v σ h.s fun k hk=>aM7 k (h.k k hk)).strip fun r σ' h=>⟨h.1.1,h.1.2,h.2⟩
 h1.trim fun r σ' ⟨hr,J,hs⟩=>⟨σ,J,hs,rfl,by rw [hr];exact aM4 _ _,fun n cs h=> .inl h,hr,rfl⟩
termination_by cT v
decreasing_by
 have:=dY hk;omega
abbrev aQ1(a b:TN):Prop:=∀σ:List (List D),Ct prog 38 [rQ a,rQ b] σ (fun r σ'=>r=D.bool true/\σ'=σ)
theorem aSo(v:VN)(σ:List (List D))(h:VG v)(hc:cT v<=100):Ct prog 51 [iH v] σ (fun r σ'=>(r.plain=true/\r.strip=rQ (Hb (cL v)))/\σ'=σ):=by
 refine zf func51 ?_;refine aZ fun _ _ Z=>?_;simp;apply Z;refine aZ fun _ _ Z=>?_;refine zs 1 fun _ Y=>?_;simp;apply Y;refine aE fun _ Y=>?_;simp;refine cH (Wq v h (by omega) _) ?_;apply Y;refine aE fun _ Y=>?_;simp;refine cH (aM7 (cL v) (Ss h hc) _) ?_;apply Y;simp;apply Z;apply aC;simp [aI]
theorem aK2(a:TN)(i:Int)(kb:List TN)(σ:List (List D))(h:TSz a)(hk:kb.length=a.kids.length)(ih:∀j (h1:j<a.kids.length) (h2:j<kb.length),aQ1 a.kids[j] kb[j]):Ct prog 38 [rQ a,rQ { a with ID:=i,kids:=kb }] σ (fun r σ'=>r= .bool true/\σ'=σ):=by
 refine zf func38 ?_;obtain⟨h1,h2,h3,h4⟩:=h;refine aZ fun _ _ Z=>?_;simp(disch:=omega)[hk];apply Z;apply aF;refine lS ⟨[],[],[],[],[]⟩ fun all hall _ Z=>?_;have ga5:aN all 5=some 14:=hall 5;have ga12:aN all 12=some 21:=hall 12;have ga19:aN all 19=some 28:=hall 19;have ga28:aN all 28=some 37:=hall 28;have ga37:aN all 37=some 46:=hall 37;have ga46:aN all 46=some 55:=hall 46;refine zs 6 fun _ Y=>?_;simp(disch:=omega)[hk,ga5,ga12,ga19,ga28,ga37,ga46];apply Y;refine zb 14 ?_ ?_<;>intro g1<;>try simp at g1
 refine zs 7 fun _ Y=>?_;simp(disch:=omega)[hk,ga5,ga12,ga19,ga28,ga37,ga46];apply Y;refine zb 21 ?_ ?_<;>intro g2<;>try simp at g2
 refine zs 7 fun _ Y=>?_;simp(disch:=omega)[hk,ga5,ga12,ga19,ga28,ga37,ga46];apply Y;refine zb 28 ?_ ?_<;>intro g3<;>try simp at g3
 refine zs 8 fun _ Y=>?_;simp(disch:=omega)[hk,ga5,ga12,ga19,ga28,ga37,ga46];and_intros<;>(try omega);apply Y;refine zs 1 fun _ Y=>?_;simp(disch:=omega)[hk,ga5,ga12,ga19,ga28,ga37,ga46];apply Y;refine zb 37 ?_ ?_<;>intro g4<;>try simp at g4
 refine zs 8 fun _ Y=>?_;simp(disch:=omega)[hk,ga5,ga12,ga19,ga28,ga37,ga46];and_intros<;>(try omega);apply Y;refine zs 1 fun _ Y=>?_;simp(disch:=omega)[hk,ga5,ga12,ga19,ga28,ga37,ga46];apply Y;refine zb 46 ?_ ?_<;>intro g5<;>try simp at g5
 refine zs 8 fun _ Y=>?_;simp(disch:=omega)[hk,ga5,ga12,ga19,ga28,ga37,ga46];and_intros<;>(try omega);apply Y;refine zs 1 fun _ Y=>?_;simp(disch:=omega)[hk,ga5,ga12,ga19,ga28,ga37,ga46];apply Y;refine zb 55 ?_ ?_<;>intro g6<;>try simp at g6
 simp(disch:=omega)[hk,ga5,ga12,ga19,ga28,ga37,ga46];and_intros<;>(try omega);apply Z;refine zI ?_ ?_<;>intro c7<;>try simp at c7
 apply zA;apply aF;refine zk [2,3,4] ?_;refine aZ fun _ _ Z=>?_;simp(disch:=omega)[hk];and_intros<;>(try omega);apply Z;apply aR;refine zk [2,3,4,66,67] ?_;refine aY (fun(k:Nat)=> [(67,.d (.v (.int .i64 (k:Int)))),(5,.d (.any))]) [4,5,67,68,69,70,71,72,73,74,75,76,77,78,79,80,81] (fun(k:Nat)=>k<=a.classes.length) (fun(k:Nat)=>a.classes.length - k) (0) (by simp <;> rfl) ?_ ?_ ?_
 .simp
 .simp
 rintro k hk;simp only [aQ,aP];refine aZ fun _ _ Z=>?_;simp(disch:=omega)[hk];apply Z;apply aF;refine zI ?_ ?_<;>intro c8<;>try simp at c8
 .apply jY;refine aZ fun _ _ Z=>?_;simp(disch:=omega)[hk];apply Z;refine zd ⟨[],[],[],[],[]⟩ [.op {},.op {rL:=true},.op {},.op {},.op {},.op {},.op {rL:=true},.op {},.op {},.op {},.op {}] fun all hall _ Z=>?_;refine lM 8 fun _ Y=>?_;simp(disch:=omega)[hk];and_intros<;>(try omega);apply Y;simp(disch:=omega)[hk];and_intros<;>(try omega);apply Z;refine zI ?_ ?_<;>intro c9<;>try simp at c9
  apply nI;refine zk [2,3,5,66,67] ?_;refine pB fun _ _ Z=>?_;simp(disch:=omega)[hk];and_intros<;>(try omega);apply Z;refine zq (k+1) ?_ ?_ ?_
  .omega
  .try dsimp only
   omega
  simp(disch:=omega)[hk]
 apply zE;apply aF;refine aZ fun _ _ Z=>?_;simp(disch:=omega)[hk];and_intros<;>(try omega);apply Z;apply aR;refine zk [2,3,84,85] ?_;refine aY (fun(k:Nat)=> [(85,.d (.v (.int .i64 (k:Int)))),(6,.d (.any))]) [4,6,85,86,87,88,89,90,91,92,93,94,95,96,97,98,99] (fun(k:Nat)=>k<=a.attrs.length) (fun(k:Nat)=>a.attrs.length - k) (0) (by simp <;> rfl) ?_ ?_ ?_
 .simp
 .simp
 rintro k hk;simp only [aQ,aP];refine aZ fun _ _ Z=>?_;simp(disch:=omega)[hk];apply Z;apply aF;refine zI ?_ ?_<;>intro c10<;>try simp at c10
 .apply jY;refine aZ fun _ _ Z=>?_;simp(disch:=omega)[hk];apply Z;refine zd ⟨[],[],[],[],[]⟩ [.op {},.op {rL:=true},.op {},.op {},.op {},.op {},.op {rL:=true},.op {},.op {},.op {},.op {}] fun all hall _ Z=>?_;refine lM 8 fun _ Y=>?_;simp(disch:=omega)[hk];and_intros<;>(try omega);apply Y;simp(disch:=omega)[hk];and_intros<;>(try omega);apply Z;refine zI ?_ ?_<;>intro c11<;>try simp at c11
  apply nI;refine zk [2,3,6,84,85] ?_;refine pB fun _ _ Z=>?_;simp(disch:=omega)[hk];and_intros<;>(try omega);apply Z;refine zq (k+1) ?_ ?_ ?_
  .omega
  .try dsimp only
   omega
  simp(disch:=omega)[hk]
 apply zE;apply aF;refine aZ fun _ _ Z=>?_;simp(disch:=omega)[hk];and_intros<;>(try omega);apply Z;apply aR;refine zk [2,3,102,103] ?_;refine aY (fun(k:Nat)=> [(103,.d (.v (.int .i64 (k:Int)))),(7,.d (.any))]) [4,7,103,104,105,106,107,108,109,110,111,112,113,114,115,116,117] (fun(k:Nat)=>k<=a.styles.length) (fun(k:Nat)=>a.styles.length - k) (0) (by simp <;> rfl) ?_ ?_ ?_
 .simp
 .simp
 rintro k hk;simp only [aQ,aP];refine aZ fun _ _ Z=>?_;simp(disch:=omega)[hk];apply Z;apply aF;refine zI ?_ ?_<;>intro c12<;>try simp at c12
 .apply jY;refine aZ fun _ _ Z=>?_;simp(disch:=omega)[hk];apply Z;refine zd ⟨[],[],[],[],[]⟩ [.op {},.op {rL:=true},.op {},.op {},.op {},.op {},.op {rL:=true},.op {},.op {},.op {},.op {}] fun all hall _ Z=>?_;refine lM 8 fun _ Y=>?_;simp(disch:=omega)[hk];and_intros<;>(try omega);apply Y;simp(disch:=omega)[hk];and_intros<;>(try omega);apply Z;refine zI ?_ ?_<;>intro c13<;>try simp at c13
  apply nI;refine zk [2,3,7,102,103] ?_;refine pB fun _ _ Z=>?_;simp(disch:=omega)[hk];and_intros<;>(try omega);apply Z;refine zq (k+1) ?_ ?_ ?_
  .omega
  .try dsimp only
   omega
  simp(disch:=omega)[hk]
 apply zE;apply aF;refine aZ fun _ _ Z=>?_;simp(disch:=omega)[hk];and_intros<;>(try omega);apply Z;apply aR;refine zk [2,3,120,121] ?_;refine aY (fun(k:Nat)=> [(121,.d (.v (.int .i64 (k:Int)))),(8,.d (.any))]) [4,8,121,122,123,124,125,126,127,128,129,130,131,132,133,134,135,136] (fun(k:Nat)=>k<=a.kids.length) (fun(k:Nat)=>a.kids.length - k) (0) (by simp <;> rfl) ?_ ?_ ?_
 .simp
 .simp
 rintro k hk;simp only [aQ,aP];refine aZ fun _ _ Z=>?_;simp(disch:=omega)[hk];apply Z;apply aF;refine zI ?_ ?_<;>intro c14<;>try simp at c14
 .apply jY;refine aZ fun _ _ Z=>?_;simp(disch:=omega)[hk];apply Z;refine zk [2,3,8,120,121] ?_;refine zd ⟨[],[],[],[],[]⟩ [.op {},.op {rL:=true},.op {},.op {},.op {},.op {},.op {rL:=true},.op {},.op {},.op {},.pure,.op {}] fun all hall _ Z=>?_;refine lM 8 fun _ Y=>?_;simp(disch:=omega)[hk];and_intros<;>(try omega);apply Y;refine lM 2 fun _ Y=>?_;simp(disch:=omega)[hk];and_intros<;>(try omega);apply Y;refine bV fun _ Y=>?_;simp(disch:=omega)[hk];refine xH (fun _=>(ih k (by omega) (by omega) _)) ?_;apply Y;simp(disch:=omega)[hk];apply Z;refine zI ?_ ?_<;>intro c15<;>try simp at c15
  apply nI;refine zk [2,3,8,120,121] ?_;refine pB fun _ _ Z=>?_;simp(disch:=omega)[hk];and_intros<;>(try omega);apply Z;refine zq (k+1) ?_ ?_ ?_
  .omega
  .try dsimp only
   omega
  simp(disch:=omega)[hk]
 apply zE;refine aZ fun _ _ Z=>?_;simp(disch:=omega)[hk];apply Z;apply aC;simp [aI]
structure LK where
 kind:Int
 move:Int
 DX:Int
 DY:Int
 deriving DecidableEq
@[simp] abbrev Yo(s:LK):D:= .agg [.v (.int .i64 s.kind),.v (.int .i64 s.move),.v (.int .i64 s.DX),.v (.int .i64 s.DY)]
def aVi:ByteArray:=⟨#[116,45,119,97,105,116]⟩
def aW6:ByteArray:=⟨#[116,45,101,110,116,101,114,45,102,114,111,109]⟩
def aVd:ByteArray:=⟨#[116,45,101,110,116,101,114,45,97,99,116,105,118,101]⟩
def aX9:ByteArray:=⟨#[116,45,101,110,116,101,114,45,116,111]⟩
def aUk:ByteArray:=⟨#[116,45,104,111,108,100]⟩
def aXf:ByteArray:=⟨#[116,45,108,101,97,118,101,45,102,114,111,109]⟩
def aV8:ByteArray:=⟨#[116,45,108,101,97,118,101,45,97,99,116,105,118,101]⟩
def aXr:ByteArray:=⟨#[116,45,108,101,97,118,101,45,116,111]⟩
def aUp:ByteArray:=⟨#[116,45,109,111,118,101]⟩
def aIo:ByteArray:=⟨#[116,45,103,104,111,115,116]⟩
def mDx:ByteArray:=⟨#[116,45,100,120]⟩
def mDy:ByteArray:=⟨#[116,45,100,121]⟩
def aA7(x:LK):Bool:=decide (x.kind=5) || decide (x.kind=6)
def Ij(x:LK):Bool:=decide (x.kind=4) || aA7 x
def rB(x:LK):Ls:=if x.kind=1 then [aVi] else if x.kind=2 then [aW6,aVd] else if x.kind=3 then [aVd,aX9] else if x.kind=4 then [aUk] else if x.kind=5 then [aXf,aV8] else if x.kind=6 then [aV8,aXr] else []
def pK(x:LK):Ls:=if x.move=0 then rB x else rB x++ [aUp]
theorem Ir(x:LK):(rB x).length<=2:=by unfold rB;(repeat' split) <;> simp
theorem Qi(x:LK):(pK x).length<=3:=by unfold pK;have:=Ir x;split <;> simp <;> omega
theorem aPs(x:LK)(σ:List (List D))  :Ct prog 223 [Yo x] σ (fun r σ'=>r= .bool (aA7 x)/\σ'=σ):=by
 refine zf func223 ?_;refine aZ fun _ _ Z=>?_;simp;apply Z;refine lS ⟨[],[],[],[],[]⟩ fun all hall _ Z=>?_;have ga3:aN all 3=some 6:=hall 3;refine zs 4 fun _ Y=>?_;simp[ga3];apply Y;refine zb 6 ?_ ?_<;>intro g1<;>try simp at g1
 .simp[ga3];apply Z;apply aC;simp [aI,aA7, *]
 simp[ga3];apply Z;apply aC;simp [aI,aA7, *]
theorem aMg(x:LK)(σ:List (List D))  :Ct prog 181 [Yo x] σ (fun r σ'=>r= .bool (Ij x)/\σ'=σ):=by
 refine zf func181 ?_;refine aZ fun _ _ Z=>?_;simp;apply Z;refine lS ⟨[],[],[],[],[]⟩ fun all hall _ Z=>?_;have ga3:aN all 3=some 6:=hall 3;refine zs 4 fun _ Y=>?_;simp[ga3];apply Y;refine zb 6 ?_ ?_<;>intro g1<;>try simp at g1
 .simp[ga3];apply Z;apply aC;simp [aI,Ij, *]
 refine zs 1 fun _ Y=>?_;simp[ga3];apply Y;refine zg ga3 fun _ Y=>?_;simp[ga3];refine cH (aPs x _) ?_;apply Y;simp[ga3];apply Z;apply aC;simp [aI,Ij, *]
theorem aIc(x:LK)(σ:List (List D))  :Ct prog 222 [Yo x] σ (fun r σ'=>r= .sl true ((rB x).map D.str)/\σ'=σ):=by
 refine zf func222 ?_;refine zr ⟨[2],[],[],[],[]⟩ fun _ _ Z=>?_;simp(disch:=omega)[gA];apply Z;apply aF;refine zr ⟨[2],[],[],[],[]⟩ fun _ _ Z=>?_;simp(disch:=omega)[gA];apply Z;apply aR;refine zr ⟨[2],[],[],[],[]⟩ fun _ _ Z=>?_;simp(disch:=omega)[gA];apply Z;refine zI ?_ ?_<;>intro c1<;>try simp at c1
 .refine zr ⟨[2],[],[],[],[]⟩ fun _ _ Z=>?_;simp(disch:=omega)[gA];and_intros<;>(try omega);apply Z;apply aC;simp [aI,rB, *];first | done | rfl | exact⟨rfl,rfl⟩ | exact⟨rfl,rfl,rfl⟩
 refine zr ⟨[2],[],[],[],[]⟩ fun _ _ Z=>?_;simp(disch:=omega)[gA];apply Z;refine zI ?_ ?_<;>intro c2<;>try simp at c2
 .refine zr ⟨[2],[],[],[],[]⟩ fun _ _ Z=>?_;simp(disch:=omega)[gA];and_intros<;>(try omega);apply Z;apply aC;simp [aI,rB, *];first | done | rfl | exact⟨rfl,rfl⟩ | exact⟨rfl,rfl,rfl⟩
 refine zr ⟨[2],[],[],[],[]⟩ fun _ _ Z=>?_;simp(disch:=omega)[gA];apply Z;refine zI ?_ ?_<;>intro c3<;>try simp at c3
 .refine zr ⟨[2],[],[],[],[]⟩ fun _ _ Z=>?_;simp(disch:=omega)[gA];and_intros<;>(try omega);apply Z;apply aC;simp [aI,rB, *];first | done | rfl | exact⟨rfl,rfl⟩ | exact⟨rfl,rfl,rfl⟩
 refine zr ⟨[2],[],[],[],[]⟩ fun _ _ Z=>?_;simp(disch:=omega)[gA];apply Z;refine zI ?_ ?_<;>intro c4<;>try simp at c4
 .refine zk [2] ?_;refine zr ⟨[2],[],[],[],[]⟩ fun _ _ Z=>?_;simp(disch:=omega)[gA];and_intros<;>(try omega);apply Z;apply aC;simp [aI,rB, *];first | done | rfl | exact⟨rfl,rfl⟩ | exact⟨rfl,rfl,rfl⟩
 refine zk [2,4] ?_;refine zr ⟨[2],[],[],[],[]⟩ fun _ _ Z=>?_;simp(disch:=omega)[gA];apply Z;refine zI ?_ ?_<;>intro c5<;>try simp at c5
 .refine zr ⟨[2],[],[],[],[]⟩ fun _ _ Z=>?_;simp(disch:=omega)[gA];and_intros<;>(try omega);apply Z;apply aC;simp [aI,rB, *];first | done | rfl | exact⟨rfl,rfl⟩ | exact⟨rfl,rfl,rfl⟩
 refine zr ⟨[2],[],[],[],[]⟩ fun _ _ Z=>?_;simp(disch:=omega)[gA];apply Z;refine zI ?_ ?_<;>intro c6<;>try simp at c6
 .refine zr ⟨[2],[],[],[],[]⟩ fun _ _ Z=>?_;simp(disch:=omega)[gA];and_intros<;>(try omega);apply Z;apply aC;simp [aI,rB, *];first | done | rfl | exact⟨rfl,rfl⟩ | exact⟨rfl,rfl,rfl⟩
 apply nI;refine zr ⟨[2],[],[],[],[]⟩ fun _ _ Z=>?_;simp(disch:=omega)[gA];apply Z;apply aC;simp [aI,rB, *];first | done | rfl | exact⟨rfl,rfl⟩ | exact⟨rfl,rfl,rfl⟩
@[simp] abbrev q34_3:Cfg:=⟨[2,3,9,12],[],[],[],[]⟩
theorem Vj(x:LK)(σ:List (List D))  :Ct prog 180 [Yo x] σ (fun r σ'=>r= .sl true ((pK x).map D.str)/\σ'=σ):=by
 refine zf func180 ?_;have hml:=Ir x;refine zr q34_3 fun _ _ Z=>?_;simp(disch:=omega);apply Z;refine zr q34_3 fun _ _ Z=>?_;refine zs 1 fun _ Y=>?_;simp(disch:=omega);apply Y;refine aE fun _ Y=>?_;simp(disch:=omega);refine cH (aIc x _) ?_;apply Y;simp(disch:=omega);apply Z;apply aF;refine zr q34_3 fun _ _ Z=>?_;simp(disch:=omega);apply Z;refine zI ?_ ?_<;>intro c1<;>try simp at c1
 .refine zt q34_3 fun _ _ Z=>?_;simp(disch:=omega);and_intros<;>(try omega);apply Z;apply fH;refine zk [2,3] ?_;refine zr q34_3 fun _ _ Z=>?_;simp(disch:=omega);apply Z;apply aC;simp [aI,pK, *];first | done | rfl
 apply zA;refine zr q34_3 fun _ _ Z=>?_;simp(disch:=omega);apply Z;apply aC;simp [aI,pK, *];first | done | rfl
@[simp] abbrev q34_4:Cfg:=⟨[0,4,25,26],[],[],[],[10,12,19,20,22,24,25]⟩
theorem aD4(n:Nat)(σ:List (List D))(hn:n<=1000000):Ct prog 221 [.v (.slice none 0 0),D.int n] σ (fun r σ'=>vS 1 [] r/\σ'=σ):=by
 refine zf func221 ?_;refine zr q34_4 fun _ _ Z=>?_;simp(disch:=first|omega|assumption);apply Z;apply aF;refine zr q34_4 fun _ _ Z=>?_;simp(disch:=first|omega|assumption);apply Z;refine zI ?_ ?_<;>intro c1<;>try simp at c1
 .exfalso;omega
 apply zA;apply aF;refine zr q34_4 fun _ _ Z=>?_;simp(disch:=first|omega|assumption);and_intros<;>try first|omega|exact rfl
 apply Z;refine zr q34_4 fun _ _ Z=>?_;simp(disch:=first|omega|assumption);apply Z;refine zI ?_ ?_<;>intro c2<;>try simp at c2
 .refine zk [0,1,4] ?_;refine zt q34_4 fun _ _ Z=>?_;refine zs 8 fun _ Y=>?_;simp(disch:=first|omega|assumption);and_intros<;>try first|omega|exact rfl
  apply Y;simp(disch:=first|omega|assumption);and_intros<;>try first|omega|exact rfl
  apply Z;apply fH;refine zk [0,4] ?_;refine zr q34_4 fun _ _ Z=>?_;simp(disch:=first|omega|assumption);apply Z;apply aC;simp [aI,vS]
 apply zA;refine zk [0,4] ?_;refine zr q34_4 fun _ _ Z=>?_;simp(disch:=first|omega|assumption);apply Z;apply aC;simp [aI,vS]
theorem aJ3(n:Nat)(σ:List (List D))(hn:n<=1000000):Ct prog 221 [.v (.slice none 0 0),D.int n] σ (fun r σ'=>r= .xs 1 []/\σ'=σ):=(aD4 n σ hn).toX fun _ _ h=>h
def Ap(a b:Ls)(k:Nat):Ls:=if k=0 then [] else if k=1 then a else a++b
theorem Sz(a b:Ls)(k:Nat):(Ap a b k).length<=a.length+b.length:=by
 unfold Ap;(repeat' split) <;> simp
def atK(a b:Ls)(k:Nat):Ls:=if k=0 then a else b
theorem aBf(a b:Ls)(k:Nat):(atK a b k).length<=a.length+b.length:=by unfold atK;split <;> omega
theorem aQj(a b:Ls)(k:Nat):k<2->([D.sl false (a.map D.str),D.sl false (b.map D.str)][k]?).getD D.any= .sl false ((atK a b k).map D.str):=by
 intro h
 match k,h with
 | 0,_=>rfl
 | 1,_=>rfl
theorem Oo {a b:Ls} {k:Nat} (h:k<2):Ap a b (k+1)=Ap a b k++atK a b k:=by
 match k,h with
 | 0,_=>simp [Ap,atK]
 | 1,_=>simp [Ap,atK]
theorem aH8 {a b:Ls} {k:Nat} (h:k<2):(Ap a b (k+1)).length=(Ap a b k).length+(atK a b k).length:=by rw [Oo h,bB]
@[simp] abbrev q34_5:Cfg:=⟨[2,6,24,31,33,35],[],[],[33],[]⟩
theorem Uj(a b:Ls)(σ:List (List D))(ha:a.length<=99999)(hb:b.length<=99999):Ct prog 179 [.sl false [.sl false (a.map D.str),.sl false (b.map D.str)]] σ (fun r σ'=>r= .xs 1 ((a++b).map D.str)/\σ'=σ):=by
 refine zf func179 ?_;have hget:=aQj a b;refine zr q34_5 fun _ _ Z=>?_;simp(disch:=first|omega|assumption)[hget];apply Z;refine zr q34_5 fun _ _ Z=>?_;simp(disch:=first|omega|assumption)[hget];apply Z;apply aF;refine zr q34_5 fun _ _ Z=>?_;simp(disch:=first|omega|assumption)[hget];and_intros<;>try first|omega|exact rfl
 apply Z;apply aR;refine zk [0,2,3,9,10,11] ?_;refine aY (fun(k:Nat)=> [(11,.d (.v (.int .i64 (k:Int)))),(3,.d (.int (((Ap a b k).length:Nat):Int))),(5,.d (.any))]) [3,5,11,12,13,14,15,16,17,18,19,20,21,22] (fun(k:Nat)=>k<=2) (fun(k:Nat)=>2 - k) (0) (by simp <;> rfl) ?_ ?_ ?_
 .simp [Ap]
 .simp
 rintro k hk;simp only [aQ,aP];have hqs:=Sz a b k;have hql:=aBf a b k;refine zr q34_5 fun _ _ Z=>?_;simp(disch:=first|omega|assumption)[hget];apply Z;apply aF;refine zI ?_ ?_<;>intro c1<;>try simp at c1
 .have hsu:=aH8 (a:=a) (b:=b) (k:=k) (by omega);apply jY;refine zr q34_5 fun _ _ Z=>?_;simp(disch:=first|omega|assumption)[hget];and_intros<;>try first|omega|exact rfl
  apply Z;refine zr q34_5 fun _ _ Z=>?_;simp(disch:=first|omega|assumption)[hget];and_intros<;>try first|omega|exact rfl
  apply Z;refine zk [0,2,3,5,9,10,11] ?_;refine zr q34_5 fun _ _ Z=>?_;simp(disch:=first|omega|assumption)[hget];apply Z;refine zI ?_ ?_<;>intro c2<;>try simp at c2
  .exfalso;omega
  apply nI;refine zt q34_5 fun _ _ Z=>?_;simp(disch:=first|omega|assumption)[hget];and_intros<;>try first|omega|exact rfl
  apply Z;refine zq (k+1) ?_ ?_ ?_
  .omega
  .try dsimp only
   omega
  simp(disch:=first|omega|assumption)[hget,hsu]
 obtain rfl:k=2:=by omega
 have h2:(Ap a b 2).length=a.length+b.length:=by simp [Ap]
 rw [h2];apply zE;refine zr q34_5 fun _ _ Z=>?_;refine zs 1 fun _ Y=>?_;simp(disch:=first|omega|assumption)[hget];apply Y;refine aE fun _ Y=>?_;simp(disch:=first|omega|assumption)[hget];refine cH (aJ3 (a.length+b.length) _ (by omega)) ?_;apply Y;simp(disch:=first|omega|assumption)[hget];apply Z;apply aF;refine zr q34_5 fun _ _ Z=>?_;simp(disch:=first|omega|assumption)[hget];and_intros<;>try first|omega|exact rfl
 apply Z;apply aR;refine zk [2,6,25,26,27] ?_;refine aY (fun(k:Nat)=> [(27,.d (.v (.int .i64 (k:Int)))),(6,.d (.xs 1 ((Ap a b k).map D.str))),(8,.d (.any))]) [6,8,27,28,29,30,31,32,33,34] (fun(k:Nat)=>k<=2) (fun(k:Nat)=>2 - k) (0) (by simp <;> rfl) ?_ ?_ ?_
 .simp [Ap]
 .simp
 rintro k hk;simp only [aQ,aP];have hqs:=Sz a b k;have hql:=aBf a b k;refine zr q34_5 fun _ _ Z=>?_;simp(disch:=first|omega|assumption)[hget];apply Z;apply aF;refine zI ?_ ?_<;>intro c3<;>try simp at c3
 .have hnx:=Oo (a:=a) (b:=b) (k:=k) (by omega);apply jY;refine zr q34_5 fun _ _ Z=>?_;simp(disch:=first|omega|assumption)[hget];and_intros<;>try first|omega|exact rfl
  apply Z;refine zt q34_5 fun _ _ Z=>?_;simp(disch:=first|omega|assumption)[hget];and_intros<;>try first|omega|exact rfl
  apply Z;apply zB;refine zk [2,6,8,25,26,27] ?_;refine zt q34_5 fun _ _ Z=>?_;simp(disch:=first|omega|assumption)[hget];and_intros<;>try first|omega|exact rfl
  apply Z;refine zq (k+1) ?_ ?_ ?_
  .omega
  .try dsimp only
   omega
  simp(disch:=first|omega|assumption)[hget,hnx]
 obtain rfl:k=2:=by omega
 apply zE;refine zr q34_5 fun _ _ Z=>?_;simp(disch:=first|omega|assumption)[hget];apply Z;apply aC;simp [aI,Ap]
theorem Xr(a b:Ls)(σ:List (List D))(ha:a.length<=99999)(hb:b.length<=99999):Ct prog 179 [.sl false [.sl false (a.map D.str),.sl false (b.map D.str)]] σ (fun r σ'=>r= .sl false ((a++b).map D.str)/\σ'=σ):=(Uj a b σ ha hb).freeze fun r σ' h=>h
def aEx(x:LK)(o:OW):List AT:=if Ij x=true then fO nA (hU nA o.attrs) ⟨aIo,⟨#[]⟩⟩else hU nA o.attrs
def aC6(x:LK)(o:OW):List PI:=if x.move=1 then fO nP (fO nP (hU nP o.styles) ⟨mDx,x.DX⟩) ⟨mDy,x.DY⟩else hU nP o.styles
def Mq(x:LK)(o:OW):OW:=⟨bK (o.classes++pK x),aEx x o,aC6 x o⟩
theorem aWt(N:Nat)(o:OW):Sc N (Cp o):=Sc.agg fun d hd=>by
 simp only [bP,gY,gZ] at hd;rcases hd with rfl | rfl | rfl
 .exact Sc.sl (Sc.map fun a=>Ry _ a)
 .exact Sc.sl (Sc.map fun a=>Qj _ a)
 exact Sc.sl (Sc.map fun a=>Qq _ a)
theorem aLd(x:LK)(o:OW)(σ:List (List D))(h1:o.classes.length<=9999)(h2:o.attrs.length<=9999)(h3:o.styles.length<=9999):Ct prog 95 [Yo x,Cp o] σ (fun r σ'=>(r.plain=true/\r.strip=Cp (Mq x o))/\∃J,σ'=σ++J):=by
 refine zf func95 ?_;have hcl:=Qi x;have ha:=iD nA o.attrs;have hp:=iD nP o.styles;have hsa:=gK nA o.attrs;have hsp:=gK nP o.styles;have hpl:=Co nP (hU nP o.styles) ⟨mDx,x.DX⟩;refine zr ⟨[],[],[5],[],[]⟩ fun _ _ Z=>?_;simp(disch:=omega)[aJ,aG,gA];apply Z;refine zd ⟨[],[],[5],[],[]⟩ [.op {},.op {rL:=true},.op {rL:=true},.pure,.op {},.pure,.pure,.op {},.op {rL:=true},.pure,.op {},.op {rL:=true},.pure,.op {},.op {rO:=true,wO:=true},.op {rO:=true,wO:=true}] fun all hall _ Z=>?_;refine lM 3 fun _ Y=>?_;simp(disch:=omega)[aJ,aG,gA];apply Y;refine bV fun _ Y=>?_;simp(disch:=omega)[aJ,aG,gA];refine xH (fun _=>(Vj x _)) ?_;apply Y;refine lM 1 fun _ Y=>?_;simp(disch:=omega)[aJ,aG,gA];and_intros<;>(try omega);apply Y;refine bV fun _ Y=>?_;simp(disch:=omega)[aJ,aG,gA];refine xH (fun _=>(Xr o.classes (pK x) _ (by omega) (by omega))) ?_;apply Y;refine bV fun _ Y=>?_;simp(disch:=omega)[aJ,aG,gA];refine xH (fun _=>(Cz (o.classes++pK x) _ (by simp;omega))) ?_;apply Y;refine lM 2 fun _ Y=>?_;simp(disch:=omega)[aJ,aG,gA];apply Y;refine bV fun _ Y=>?_;simp(disch:=omega)[aJ,aG,gA];refine xH (fun _=>(aAu o.attrs _ (by omega))) ?_;apply Y;refine lM 2 fun _ Y=>?_;simp(disch:=omega)[aJ,aG,gA];apply Y;refine bV fun _ Y=>?_;simp(disch:=omega)[aJ,aG,gA];refine xH (fun _=>(aAw o.styles _ (by omega))) ?_;apply Y;simp(disch:=omega)[aJ,aG,gA];and_intros<;>(try omega);apply Z;apply aF;refine zk [2,4,5] ?_;refine zr ⟨[],[],[5],[],[]⟩ fun _ _ Z=>?_;refine zs 1 fun _ Y=>?_;simp(disch:=omega)[aJ,aG,gA];apply Y;refine aE fun _ Y=>?_;simp(disch:=omega)[aJ,aG,gA];refine cH (aMg x _) ?_;apply Y;simp only [dL];apply Z;refine zI ?_ ?_<;>intro c1<;>try simp at c1
 .refine zt ⟨[],[],[5],[],[]⟩ fun _ _ Z=>?_;refine zs 2 fun _ Y=>?_;simp(disch:=omega)[aJ,aG,gA];apply Y;refine aE fun _ Y=>?_;simp(disch:=omega)[aJ,aG,gA];refine cH (aCl (hU nA o.attrs) aIo ⟨#[]⟩ _ (by omega) hsa) ?_;apply Y;simp(disch:=omega)[aJ,aG,gA];apply Z;apply fH;apply aF;refine zr ⟨[],[],[5],[],[]⟩ fun _ _ Z=>?_;simp(disch:=omega)[aJ,aG,gA];apply Z;refine zI ?_ ?_<;>intro c2<;>try simp at c2
  .refine zk [2,4,5] ?_;refine ze ⟨[],[],[5],[],[]⟩ [.op {},.op {rO:=true},.op {},.op {rL:=true},.pure,.op {},.op {rL:=true},.pure,.op {},.op {rO:=true,wO:=true}] fun all hall _ Z=>?_;refine lM 4 fun _ Y=>?_;simp(disch:=omega)[aJ,aG,gA];apply Y;refine bV fun _ Y=>?_;simp(disch:=omega)[aJ,aG,gA];refine xH (fun _=>(Ch (hU nP o.styles) mDx x.DX _ (by omega) hsp)) ?_;apply Y;refine lM 2 fun _ Y=>?_;simp(disch:=omega)[aJ,aG,gA];apply Y;refine bV fun _ Y=>?_;simp(disch:=omega)[aJ,aG,gA];refine xH (fun _=>(Ch (fO nP (hU nP o.styles) ⟨mDx,x.DX⟩) mDy x.DY _ (by omega) (nC nP hsp _))) ?_;apply Y;simp(disch:=omega)[aJ,aG,gA];apply Z;apply fH;refine zk [4,5] ?_;refine zr ⟨[],[],[5],[],[]⟩ fun _ _ Z=>?_;simp(disch:=omega)[aJ,aG,gA];apply Z;apply aC;simp [aI,Mq,aEx,aC6, *]
  apply zA;refine zk [4,5] ?_;refine zr ⟨[],[],[5],[],[]⟩ fun _ _ Z=>?_;simp(disch:=omega)[aJ,aG,gA];apply Z;apply aC;simp [aI,Mq,aEx,aC6, *]
 apply zA;apply aF;refine zr ⟨[],[],[5],[],[]⟩ fun _ _ Z=>?_;simp(disch:=omega)[aJ,aG,gA];apply Z;refine zI ?_ ?_<;>intro c3<;>try simp at c3
 .refine ze ⟨[],[],[5],[],[]⟩ [.op {},.op {rO:=true},.op {},.op {rL:=true},.pure,.op {},.op {rL:=true},.pure,.op {},.op {rO:=true,wO:=true}] fun all hall _ Z=>?_;refine lM 4 fun _ Y=>?_;simp(disch:=omega)[aJ,aG,gA];apply Y;refine bV fun _ Y=>?_;simp(disch:=omega)[aJ,aG,gA];refine xH (fun _=>(Ch (hU nP o.styles) mDx x.DX _ (by omega) hsp)) ?_;apply Y;refine lM 2 fun _ Y=>?_;simp(disch:=omega)[aJ,aG,gA];apply Y;refine bV fun _ Y=>?_;simp(disch:=omega)[aJ,aG,gA];refine xH (fun _=>(Ch (fO nP (hU nP o.styles) ⟨mDx,x.DX⟩) mDy x.DY _ (by omega) (nC nP hsp _))) ?_;apply Y;simp(disch:=omega)[aJ,aG,gA];apply Z;apply fH;refine zk [4,5] ?_;refine zr ⟨[],[],[5],[],[]⟩ fun _ _ Z=>?_;simp(disch:=omega)[aJ,aG,gA];apply Z;apply aC;simp [aI,Mq,aEx,aC6, *]
 apply zA;refine zr ⟨[],[],[5],[],[]⟩ fun _ _ Z=>?_;simp(disch:=omega)[aJ,aG,gA];apply Z;apply aC;simp [aI,Mq,aEx,aC6, *]
theorem aOc(x:LK)(o:OW)(σ:List (List D))(h1:o.classes.length<=9999)(h2:o.attrs.length<=9999)(h3:o.styles.length<=9999):Ct prog 95 [Yo x,Cp o] σ (fun r σ'=>r=Cp (Mq x o)/\σ'=σ):=
 have h:Ct prog 95 [Yo x,Cp o] σ (fun r σ'=>r=Cp (Mq x o)/\∃J,σ'=σ++J):=(aLd x o σ h1 h2 h3).strip fun r σ' h=>⟨h.1.1,h.1.2,h.2⟩
 h.trim fun r σ' ⟨hr,J,hs⟩=>⟨σ,J,hs,rfl,by rw [hr];exact aWt _ _,fun n cs h=> .inl h,hr,rfl⟩
end Go.Proofs.YtbgfljpnhhdkoaaGreat
