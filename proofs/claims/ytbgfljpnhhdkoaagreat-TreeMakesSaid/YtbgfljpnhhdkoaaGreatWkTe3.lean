import Derived.Test.YtbgfljpnhhdkoaaGreatWkVi7
set_option linter.all false
set_option maxRecDepth 20000
set_option maxHeartbeats 8000000
open Go.Proofs.Tryz
namespace Go.Proofs.YtbgfljpnhhdkoaaGreat
open Go Go.Vm
variable {v:VN}
structure TN where
 ID:Int
 kind:Int
 tag:ByteArray
 text:ByteArray
 classes:(List ByteArray)
 attrs:(List AT)
 styles:(List PI)
 kids:(List TN)
def Lu(s:TN):D:= .agg [.v (.int .i64 s.ID),.v (.int .i64 s.kind),.v (.string s.tag),.v (.string s.text),.sl false (s.classes.map D.str),.sl false (s.attrs.map dA),.sl false (s.styles.map cQ),.sl false (s.kids.attach.map fun k=>Lu k.1)]
termination_by SizeOf.sizeOf s
decreasing_by
 have h:=mI k.2;cases s;simp at h |-;omega
@[simp] abbrev rE(s:TN):D:= .agg [.v (.int .i64 s.ID),.v (.int .i64 s.kind),.v (.string s.tag),.v (.string s.text),.sl false (s.classes.map D.str),.sl false (s.attrs.map dA),.sl false (s.styles.map cQ),.sl false (s.kids.map Lu)]
@[simp] abbrev bAu(s:TN):D:= .agg [.v (.int .i64 s.ID),.v (.int .i64 s.kind),.v (.string s.tag),.v (.string s.text),.sl true (s.classes.map D.str),.sl true (s.attrs.map dA),.sl true (s.styles.map cQ),.sl true (s.kids.map Lu)]
@[simp] theorem aO5(s:TN):Lu s=rE s:=by rw [Lu];simp
theorem aKl(N:Nat)(t:TN):Sc N (rE t):=Sc.agg fun d hd=>by
 simp only [bM,gX,iB] at hd;rcases hd with rfl | rfl | rfl | rfl | rfl | rfl | rfl | rfl
 .exact Sc.v _
 .exact Sc.v _
 .exact Sc.v _
 .exact Sc.v _
 .exact Sc.sl (Sc.map fun a=>Sf _ a)
 .exact Sc.sl (Sc.map fun a=>Tc _ a)
 .exact Sc.sl (Sc.map fun a=>Rr _ a)
 refine Sc.sl fun d hd=>?_;obtain⟨k,hk,e⟩:=aV.1 hd;rw [<- e,aO5];exact aKl N k
termination_by SizeOf.sizeOf t
decreasing_by
 have h:=mI hk;cases t;simp at h |-;omega
def rV(t:TN):Nat:=1+(t.kids.attach.map fun k=>rV k.1).sum
termination_by SizeOf.sizeOf t
decreasing_by
 have h:=mI k.2;cases t;simp at h |-;omega
theorem Ja(t:TN):rV t=1+(t.kids.map rV).sum:=by rw [rV];simp
theorem uL {v k:TN} (h:k∈v.kids):rV k+1<=rV v:=by
 rw [Ja v];have:∀l:List TN,k∈l->rV k<=(l.map rV).sum:=by
  intro l;induction l with
  | nil=>intro h;cases h
  | cons a l ih=>
   intro h;simp only [cC,iA];rcases bM.1 h with rfl | h
   .omega
   have:=ih h;omega
 have:=this v.kids h;omega
theorem aIm(v:TN):v.kids.length+1<=rV v:=by
 rw [Ja v];have:∀l:List TN,l.length<=(l.map rV).sum:=by
  intro l;induction l with
  | nil=>simp
  | cons a l ih=>
   have:=Ja a;simp only [cC,iA,bJ];omega
 have:=this v.kids;omega
abbrev TSz(t:TN):Prop:=t.classes.length<=9999/\t.attrs.length<=9999/\t.styles.length<=9999/\t.kids.length<=9999
inductive TB:TN->Prop
 | mk (t:TN) (h:TSz t) (hk:∀k∈t.kids,TB k):TB t
theorem TB.s {t:TN} (h:TB t):TSz t:=by cases h;assumption
theorem TB.k {t:TN} (h:TB t):∀k∈t.kids,TB k:=by cases h;assumption
def tkT(l:List TN)(k:Nat):List TN:=l.take k
theorem aL9(l:List TN):tkT l 0= []:=rfl
theorem aKr(l:List TN)(k:Nat)(h:k<l.length):tkT l (k+1)=tkT l k++ [l[k]]:=bL l k h
theorem aQj(l:List TN)(k:Nat):(tkT l k).length<=k:=by unfold tkT;rw [bG];omega
theorem aPo(l:List TN):tkT l l.length=l:=dY
abbrev aSf(t:TN):Prop:=∀σ:List (List D),Ct prog 36 [rE t] σ (fun r σ'=>r=rE t/\σ'=σ)
@[simp] abbrev q40_1:Cfg:=⟨[31,45,59],[],[3],[],[]⟩
theorem aH8(t:TN)(σ:List (List D))(h:TSz t)(ih:∀k∈t.kids,aSf k):Ct prog 36 [rE t] σ (fun r σ'=>(r.plain=true/\r.strip=rE t)/\∃J,σ'=σ++J):=by
 refine zf func36 ?_;obtain⟨h1,h2,h3,h4⟩:=h;refine zr q40_1 fun _ _ Z=>?_;simp(disch:=omega)[aI,aG];apply Z;refine zd q40_1 [.op {},.op {rL:=true},.op {},.op {rL:=true},.op {},.op {rL:=true},.op {},.op {rL:=true},.op {},.op {},.op {rL:=true},.op {},.op {},.op {rO:=true,wO:=true},.op {rO:=true,wO:=true}] fun all hall _ Z=>?_;refine kF 8 fun _ Y=>?_;simp(disch:=omega)[aI,aG];apply Y;simp(disch:=omega)[aI,aG];and_intros<;>(try omega);apply Z;apply aE;refine zk [1,2,3] ?_;refine zr q40_1 fun _ _ Z=>?_;simp(disch:=omega)[aI,aG];and_intros<;>(try omega);apply Z;apply aR;refine zk [1,2,3,24,25,26] ?_;refine kI (fun(k:Nat)=> [(26,.d (.v (.int .i64 (k:Int))))]) (fun(k:Nat)=> []) (fun(k:Nat)=> [(σ.length, [D.int t.ID,D.int t.kind,D.str t.tag,D.str t.text,.sl false (t.classes.map D.str),.sl true ((tkA t.attrs k).map dA),.sl true ((tkP t.styles 0).map cQ),.sl true ((tkT t.kids 0).map Lu)])]) [5,26,27,28,29,30,31,32,33,34,35,36] (fun(k:Nat)=>k<=t.attrs.length) (fun(k:Nat)=>t.attrs.length - k) (0) (by simp <;> rfl) ?_ (by simp) (by simp [aI,aSv,aMv,aL9]) ?_ ?_
 .simp
 .simp
 rintro k hk;simp only [aQ,aO,lE,jP,gD,fY];have htl:=aC2 t.attrs k;refine zr q40_1 fun _ _ Z=>?_;simp(disch:=omega)[aI,aG];apply Z;apply aE;refine zI ?_ ?_<;>intro c1<;>try simp at c1
 .apply jM;refine zr q40_1 fun _ _ Z=>?_;simp(disch:=omega)[aI,aG];and_intros<;>(try omega);apply Z;refine zt q40_1 fun _ _ Z=>?_;simp(disch:=omega)[aI,aG];and_intros<;>(try omega);apply Z;apply zB;refine zk [1,2,3,24,25,26] ?_;refine zt q40_1 fun _ _ Z=>?_;simp(disch:=omega)[aI,aG];and_intros<;>(try omega);apply Z;refine fB (k+1) ?_ ?_ (dW rfl ?_ (by simp) (by simp [Wq, *]))
  .omega
  .try dsimp only
   omega
  simp(disch:=omega)[aI,aG]
 obtain rfl:k=t.attrs.length:=by omega
 apply zE;apply aE;refine zr q40_1 fun _ _ Z=>?_;simp(disch:=omega)[aI,aG];and_intros<;>(try omega);apply Z;apply aR;refine zk [1,2,3,38,39,40] ?_;refine kI (fun(i:Nat)=> [(40,.d (.v (.int .i64 (i:Int))))]) (fun(i:Nat)=> []) (fun(i:Nat)=> [(σ.length, [D.int t.ID,D.int t.kind,D.str t.tag,D.str t.text,.sl false (t.classes.map D.str),.sl true ((tkA t.attrs t.attrs.length).map dA),.sl true ((tkP t.styles i).map cQ),.sl true ((tkT t.kids 0).map Lu)])]) [7,40,41,42,43,44,45,46,47,48,49,50] (fun(i:Nat)=>i<=t.styles.length) (fun(i:Nat)=>t.styles.length - i) (0) (by simp <;> rfl) ?_ (by simp) (by simp [aI,aMv,aL9]) ?_ ?_
 .simp
 .simp
 rintro i hi;simp only [aQ,aO,lE,jP,gD,fY];have htl1:=aCe t.styles i;refine zr q40_1 fun _ _ Z=>?_;simp(disch:=omega)[aI,aG];apply Z;apply aE;refine zI ?_ ?_<;>intro c2<;>try simp at c2
 .apply jM;refine zr q40_1 fun _ _ Z=>?_;simp(disch:=omega)[aI,aG];and_intros<;>(try omega);apply Z;refine zt q40_1 fun _ _ Z=>?_;simp(disch:=omega)[aI,aG];and_intros<;>(try omega);apply Z;apply zB;refine zk [1,2,3,38,39,40] ?_;refine zt q40_1 fun _ _ Z=>?_;simp(disch:=omega)[aI,aG];and_intros<;>(try omega);apply Z;refine fB (i+1) ?_ ?_ (dW rfl ?_ (by simp) (by simp [Vd, *]))
  .omega
  .try dsimp only
   omega
  simp(disch:=omega)[aI,aG]
 obtain rfl:i=t.styles.length:=by omega
 apply zE;apply aE;refine zr q40_1 fun _ _ Z=>?_;simp(disch:=omega)[aI,aG];and_intros<;>(try omega);apply Z;apply aR;refine zk [2,3,52,53,54] ?_;refine kI (fun(j:Nat)=> [(54,.d (.v (.int .i64 (j:Int))))]) (fun(j:Nat)=> []) (fun(j:Nat)=> [(σ.length, [D.int t.ID,D.int t.kind,D.str t.tag,D.str t.text,.sl false (t.classes.map D.str),.sl true ((tkA t.attrs t.attrs.length).map dA),.sl true ((tkP t.styles t.styles.length).map cQ),.sl true ((tkT t.kids j).map Lu)])]) [9,54,55,56,57,58,59,60,61,62,63,64,65] (fun(j:Nat)=>j<=t.kids.length) (fun(j:Nat)=>t.kids.length - j) (0) (by simp <;> rfl) ?_ (by simp) (by simp [aI,aL9]) ?_ ?_
 .simp
 .simp
 rintro j hj;simp only [aQ,aO,lE,jP,gD,fY];have htl2:=aQj t.kids j;refine zr q40_1 fun _ _ Z=>?_;simp(disch:=omega)[aI,aG];apply Z;apply aE;refine zI ?_ ?_<;>intro c3<;>try simp at c3
 .apply jM;refine zr q40_1 fun _ _ Z=>?_;simp(disch:=omega)[aI,aG];and_intros<;>(try omega);apply Z;refine ze q40_1 [.op {},.op {rO:=true,wO:=true},.op {rL:=true},.pure,.op {},.op {},.op {},.op {rO:=true,wO:=true}] fun all hall _ Z=>?_;refine kF 3 fun _ Y=>?_;simp(disch:=omega)[aI,aG];apply Y;refine bY fun _ Y=>?_;simp(disch:=omega)[aI,aG];refine wI (fun _=>(ih t.kids[j] (bS _) _)) ?_;apply Y;simp(disch:=omega)[aI,aG];and_intros<;>(try omega);apply Z;apply zB;refine zk [2,3,52,53,54] ?_;refine zt q40_1 fun _ _ Z=>?_;simp(disch:=omega)[aI,aG];and_intros<;>(try omega);apply Z;refine fB (j+1) ?_ ?_ (dW rfl ?_ (by simp) (by simp [aKr, *]))
  .omega
  .try dsimp only
   omega
  simp(disch:=omega)[aI,aG]
 obtain rfl:j=t.kids.length:=by omega
 rw [aBq,aDe,aPo];apply zE;refine zr q40_1 fun _ _ Z=>?_;simp(disch:=omega)[aI,aG];apply Z;apply aC;simp [aH]
theorem aBz(t:TN)(h:TB t):aSf t:=fun σ=>
 have h1:Ct prog 36 [rE t] σ (fun r σ'=>r=rE t/\∃J,σ'=σ++J):=(aH8 t σ h.s fun k hk=>aBz k (h.k k hk)).strip fun r σ' h=>⟨h.1.1,h.1.2,h.2⟩
 h1.trim fun r σ' ⟨hr,J,hs⟩=>⟨σ,J,hs,rfl,by rw [hr];exact aKl _ _,fun n cs h=> .inl h,hr,rfl⟩
termination_by rV t
decreasing_by
 have:=uL hk;omega
def Rq(v:VN):TN:=if v.kind=1 then⟨0,1,⟨#[]⟩,v.text, [], [], [], []⟩else⟨0,2,v.tag,⟨#[]⟩,v.classes,v.attrs,v.styles,v.kids.attach.map fun k=>Rq k.1⟩
termination_by SizeOf.sizeOf v
decreasing_by
 have h:=mI k.2;cases v;simp at h |-;omega
theorem Tl(v:VN):Rq v=if v.kind=1 then⟨0,1,⟨#[]⟩,v.text, [], [], [], []⟩else⟨0,2,v.tag,⟨#[]⟩,v.classes,v.attrs,v.styles,v.kids.map Rq⟩:=by
 rw [Rq];simp
def tkO(l:List VN)(k:Nat):List TN:=(l.take k).map Rq
theorem aV3(l:List VN):tkO l 0= []:=rfl
theorem aLh(l:List VN)(k:Nat)(h:k<l.length):tkO l (k+1)=tkO l k++ [Rq l[k]]:=by unfold tkO;rw [bL l k h,cE];rfl
theorem aQc(l:List VN)(k:Nat):(tkO l k).length<=k:=by unfold tkO;rw [bQ,bG];omega
theorem aPj(l:List VN):tkO l l.length=l.map Rq:=by unfold tkO;rw [dY]
abbrev OfC(v:VN):Prop:=∀σ:List (List D),Ct prog 109 [iX v] σ (fun r σ'=>r=rE (Rq v)/\σ'=σ)
@[simp] abbrev q40_2:Cfg:=⟨[15,17,19,29],[],[3],[],[]⟩
theorem aU7(v:VN)(σ:List (List D))(h:VSz v)(ih:∀k∈v.kids,OfC k):Ct prog 109 [iX v] σ (fun r σ'=>(r.plain=true/\r.strip=rE (Rq v))/\∃J,σ'=σ++J):=by
 refine zf func109 ?_;obtain⟨h1,h2,h3,h4,h5⟩:=h;refine zr q40_2 fun _ _ Z=>?_;simp(disch:=omega)[aI,aG];apply Z;apply aE;refine zr q40_2 fun _ _ Z=>?_;simp(disch:=omega)[aI,aG];apply Z;refine zI ?_ ?_<;>intro c1<;>try simp at c1
 .refine zr q40_2 fun _ _ Z=>?_;simp(disch:=omega)[aI,aG];apply Z;apply aC;simp [aH];rw [Tl,aK c1];simp
 apply zA;refine zr q40_2 fun _ _ Z=>?_;refine zs 8 fun _ Y=>?_;simp(disch:=omega)[aI,aG];apply Y;simp(disch:=omega)[aI,aG];and_intros<;>(try omega);apply Z;apply aE;refine zk [1,2,3] ?_;refine zr q40_2 fun _ _ Z=>?_;simp(disch:=omega)[aI,aG];and_intros<;>(try omega);apply Z;apply aR;refine zk [2,3,22,23,24] ?_;refine kI (fun(j:Nat)=> [(24,.d (.v (.int .i64 (j:Int))))]) (fun(j:Nat)=> []) (fun(j:Nat)=> [(σ.length, [D.int 0,D.int 2,D.str v.tag,D.str ⟨#[]⟩,.sl false (v.classes.map D.str),.sl false (v.attrs.map dA),.sl false (v.styles.map cQ),.sl true ((tkO v.kids j).map Lu)])]) [5,24,25,26,27,28,29,30,31,32,33,34,35] (fun(j:Nat)=>j<=v.kids.length) (fun(j:Nat)=>v.kids.length - j) (0) (by simp <;> rfl) ?_ (by simp) (by simp [aI,aV3]) ?_ ?_
 .simp
 .simp
 rintro j hj;simp only [aQ,aO,lE,jP,gD,fY];have htl2:=aQc v.kids j;refine zr q40_2 fun _ _ Z=>?_;simp(disch:=omega)[aI,aG];apply Z;apply aE;refine zI ?_ ?_<;>intro c2<;>try simp at c2
 .apply jM;refine zr q40_2 fun _ _ Z=>?_;simp(disch:=omega)[aI,aG];and_intros<;>(try omega);apply Z;refine ze q40_2 [.op {},.op {rO:=true,wO:=true},.op {rL:=true},.pure,.op {},.op {},.op {},.op {rO:=true,wO:=true}] fun all hall _ Z=>?_;refine kF 3 fun _ Y=>?_;simp(disch:=omega)[aI,aG];apply Y;refine bY fun _ Y=>?_;simp(disch:=omega)[aI,aG];refine wI (fun _=>(ih v.kids[j] (bS _) _)) ?_;apply Y;simp(disch:=omega)[aI,aG];and_intros<;>(try omega);apply Z;apply zB;refine zk [2,3,22,23,24] ?_;refine zt q40_2 fun _ _ Z=>?_;simp(disch:=omega)[aI,aG];and_intros<;>(try omega);apply Z;refine fB (j+1) ?_ ?_ (dW rfl ?_ (by simp) (by simp [aLh, *]))
  .omega
  .try dsimp only
   omega
  simp(disch:=omega)[aI,aG]
 obtain rfl:j=v.kids.length:=by omega
 rw [aPj];apply zE;refine zr q40_2 fun _ _ Z=>?_;simp(disch:=omega)[aI,aG];apply Z;apply aC;simp [aH];rw [Tl,aD c1];simp
inductive VB:VN->Prop
 | mk (v:VN) (h:VSz v) (hk:∀k∈v.kids,VB k):VB v
theorem VB.s (h:VB v):VSz v:=by cases h;assumption
theorem VB.k (h:VB v):∀k∈v.kids,VB k:=by cases h;assumption
theorem VG.b:∀ {v:VN},VG v->cB v<=9999->VB v
 | v,h,hc=> .mk v (h.sz hc) fun k hk=>VG.b (h.k k hk) (by have:=dQ hk;omega)
termination_by v=>cB v
decreasing_by
 have:=dQ hk;omega
theorem Dj(v:VN):v=txt v v.text:=by cases v;rfl
theorem aKp {o:List VN} {k x:VN} (h:x∈oB o k):∃y,(y∈o\/y=k)/\∃s,x=txt y s:=by
 unfold oB at h;have hq:x∈o++ [k]->∃y,(y∈o\/y=k)/\∃s,x=txt y s:=fun h=>by
  rcases bT.1 h with h | h
  .exact⟨x,.inl h,x.text,Dj x⟩
  exact⟨k,.inr rfl,k.text,by rw [fS.1 h];exact Dj k⟩
 split at h
 .rename_i p hp;split at h
  .rcases Qm h with h | h
   .exact⟨x,.inl h,x.text,Dj x⟩
   exact⟨p,.inl (List.mem_of_getLast? hp),_,h⟩
  exact hq h
 exact hq h
theorem Qj {l:List VN} {x:VN} (h:x∈gW l):∃y∈l,∃s,x=txt y s:=by
 have:∀(l o:List VN),x∈l.foldl oB o->∃y,(y∈o\/y∈l)/\∃s,x=txt y s:=by
  intro l;induction l with
  | nil=>intro o h;exact⟨x,.inl h,x.text,Dj x⟩
  | cons a l ih =>
   intro o h;obtain⟨y,hy,s,e⟩:=ih _ h;rcases hy with hy | hy
   .obtain⟨z,hz,s2,e2⟩:=aKp hy;rcases hz with hz | rfl
    .exact⟨z,.inl hz,s,by rw [e,e2];rfl⟩
    exact⟨z,.inr dH,s,by rw [e,e2];rfl⟩
   exact⟨y,.inr (eV _ hy),s,e⟩
 obtain⟨y,hy,h2⟩:=this l [] h;rcases hy with hy | hy
 .cases hy
 exact⟨y,hy,h2⟩
theorem VB.txt (h:VB v)(s:ByteArray):VB (txt v s):= .mk _ h.s h.k
theorem Xz:∀ {v:VN},VG v->cB v<=100->VB (cZ v)
 | v, h, hc => by
  rw [lC];obtain⟨a,b,c,d, -⟩:=h.f;have hl:=jV v;have ha:=nL v.classes;have hb:=iI nA v.attrs;have hcl:=iI nP v.styles;have hm:(gW ((v.kids.map cZ).filter jH)).length<=v.kids.length:=lM (Qe _) (lM (jD _ _) (by simp));refine .mk _ ⟨by show(bU v.classes).length<=9999;omega,by show(iC nA v.attrs).length<=9999;omega,by show(iC nP v.styles).length<=9999;omega,lM hm (by omega),fun k hk=>?_⟩ fun k hk=>?_
  .have hx:=Hp (l:=(v.kids.map cZ).filter jH) (B:=70) (fun k hk=>by
    obtain⟨y,hy,rfl⟩:=aV.1 (cS.1 hk).1;rw [tM];exact(h.k y hy).f.2.2.2.1) _ (aW _) k (by rw [dY];exact hk)
   have h2:((v.kids.map cZ).filter jH).length<=100:=lM (jD _ _) (by simp;omega);have h3:((v.kids.map cZ).filter jH).length * 70<=100 * 70:=fO _ h2;omega
  obtain⟨y,hy,s,rfl⟩:=Qj hk;obtain⟨z,hz,rfl⟩:=aV.1 (cS.1 hy).1;exact(Xz (h.k z hz) (by have:=dQ hz;omega)).txt s
termination_by v=>cB v
decreasing_by
 have:=dQ hz;omega
theorem aQu(v:VN)(s:ByteArray):cB (txt v s)=cB v:=by rw [jC,jC v];rfl
theorem aC3:∀(o:List VN) (i:Nat) (x:VN) (h:i<o.length),cB x=cB o[i]->((o.set i x).map cB).sum=(o.map cB).sum
 | a::o,0,x,_,e=>by simp at e;simp [e]
 | a::o,i+1,x,h,e=>by
  have:=aC3 o i x (by simpa using h) (by simpa using e);simp only [fY,cC,iA,this]
theorem aNc(o:List VN)(k:VN):((oB o k).map cB).sum<=(o.map cB).sum+cB k:=by
 unfold oB;split
 .rename_i p hp;split
  .rw [Hb] at hp;obtain⟨h1,h2⟩:=aP.1 hp;rw [aC3 o _ _ h1 (by rw [aQu,h2])];omega
  simp
 simp
theorem aFt(l:List VN):((gW l).map cB).sum<=(l.map cB).sum:=by
 have:∀(l o:List VN),((l.foldl oB o).map cB).sum<=(o.map cB).sum+(l.map cB).sum:=by
  intro l;induction l with
  | nil=>intro o;simp
  | cons a l ih=>
   intro o;have h1:=ih (oB o a);have h2:=aNc o a;simp only [dO,cC,iA];omega
 have:=this l [];simpa [gW] using this
theorem Yt(l:List VN)(p:VN->Bool):((l.filter p).map cB).sum<=(l.map cB).sum:=by
 induction l with
 | nil=>simp
 | cons a l ih=>
  by_cases h:p a=true
  .rw [qC h];simp;omega
  rw [sH h];simp;omega
theorem aJx {α:Type} (f g:α->Nat):∀(l:List α),(∀x∈l,f x<=g x)->(l.map f).sum<=(l.map g).sum
 | [],_=>by simp
 | a::l,h=>by
  have:=aJx f g l fun x hx=>h x (eV _ hx);have:=h a dH;simp;omega
theorem Ca(v:VN):cB (cZ v)<=cB v:=by
 rw [jC,jC v,lC];show 1+((gW ((v.kids.map cZ).filter jH)).map cB).sum<=_
 have h1:=aFt ((v.kids.map cZ).filter jH);have h2:=Yt (v.kids.map cZ) jH;rw [eA] at h2;have h3:=aJx (cB ∘ cZ) cB v.kids fun x hx=>Ca x;omega
termination_by cB v
decreasing_by
 have:=dQ hx;omega
theorem aJ5(v:VN)(h:VB v):OfC v:=fun σ=>
 have h1:Ct prog 109 [iX v] σ (fun r σ'=>r=rE (Rq v)/\∃J,σ'=σ++J):=(aU7 v σ h.s fun k hk=>aJ5 k (h.k k hk)).strip fun r σ' h=>⟨h.1.1,h.1.2,h.2⟩
 h1.trim fun r σ' ⟨hr,J,hs⟩=>⟨σ,J,hs,rfl,by rw [hr];exact aKl _ _,fun n cs h=> .inl h,hr,rfl⟩
termination_by cB v
decreasing_by
 have:=dQ hk;omega
abbrev aSa(a b:TN):Prop:=∀σ:List (List D),Ct prog 38 [rE a,rE b] σ (fun r σ'=>r=D.bool true/\σ'=σ)
theorem aTr(v:VN)(σ:List (List D))(h:VG v)(hc:cB v<=100):Ct prog 51 [iX v] σ (fun r σ'=>(r.plain=true/\r.strip=rE (Rq (cZ v)))/\σ'=σ):=by
 refine zf func51 ?_;refine bB fun _ _ Z=>?_;simp;apply Z;refine bB fun _ _ Z=>?_;refine zs 1 fun _ Y=>?_;simp;apply Y;refine aF fun _ Y=>?_;simp;refine cT (Dz v h (by omega) _) ?_;apply Y;refine aF fun _ Y=>?_;simp;refine cT (aJ5 (cZ v) (Xz h hc) _) ?_;apply Y;simp;apply Z;apply aC;simp [aH]
theorem aM0(a:TN)(i:Int)(kb:List TN)(σ:List (List D))(h:TSz a)(hk:kb.length=a.kids.length)(ih:∀j (h1:j<a.kids.length) (h2:j<kb.length),aSa a.kids[j] kb[j]):Ct prog 38 [rE a,rE { a with ID:=i,kids:=kb }] σ (fun r σ'=>r= .bool true/\σ'=σ):=by
 refine zf func38 ?_;obtain⟨h1,h2,h3,h4⟩:=h;refine bB fun _ _ Z=>?_;simp(disch:=omega)[hk];apply Z;apply aE;refine mH ⟨[],[],[],[],[]⟩ fun all hall _ Z=>?_;have ga5:aN all 5=some 14:=hall 5;have ga12:aN all 12=some 21:=hall 12;have ga19:aN all 19=some 28:=hall 19;have ga28:aN all 28=some 37:=hall 28;have ga37:aN all 37=some 46:=hall 37;have ga46:aN all 46=some 55:=hall 46;refine zs 6 fun _ Y=>?_;simp(disch:=omega)[hk,ga5,ga12,ga19,ga28,ga37,ga46];apply Y;refine zb 14 ?_ ?_<;>intro g1<;>try simp at g1
 refine zs 7 fun _ Y=>?_;simp(disch:=omega)[hk,ga5,ga12,ga19,ga28,ga37,ga46];apply Y;refine zb 21 ?_ ?_<;>intro g2<;>try simp at g2
 refine zs 7 fun _ Y=>?_;simp(disch:=omega)[hk,ga5,ga12,ga19,ga28,ga37,ga46];apply Y;refine zb 28 ?_ ?_<;>intro g3<;>try simp at g3
 refine zs 8 fun _ Y=>?_;simp(disch:=omega)[hk,ga5,ga12,ga19,ga28,ga37,ga46];and_intros<;>(try omega);apply Y;refine zs 1 fun _ Y=>?_;simp(disch:=omega)[hk,ga5,ga12,ga19,ga28,ga37,ga46];apply Y;refine zb 37 ?_ ?_<;>intro g4<;>try simp at g4
 refine zs 8 fun _ Y=>?_;simp(disch:=omega)[hk,ga5,ga12,ga19,ga28,ga37,ga46];and_intros<;>(try omega);apply Y;refine zs 1 fun _ Y=>?_;simp(disch:=omega)[hk,ga5,ga12,ga19,ga28,ga37,ga46];apply Y;refine zb 46 ?_ ?_<;>intro g5<;>try simp at g5
 refine zs 8 fun _ Y=>?_;simp(disch:=omega)[hk,ga5,ga12,ga19,ga28,ga37,ga46];and_intros<;>(try omega);apply Y;refine zs 1 fun _ Y=>?_;simp(disch:=omega)[hk,ga5,ga12,ga19,ga28,ga37,ga46];apply Y;refine zb 55 ?_ ?_<;>intro g6<;>try simp at g6
 simp(disch:=omega)[hk,ga5,ga12,ga19,ga28,ga37,ga46];and_intros<;>(try omega);apply Z;refine zI ?_ ?_<;>intro c7<;>try simp at c7
 apply zA;apply aE;refine zk [2,3,4] ?_;refine bB fun _ _ Z=>?_;simp(disch:=omega)[hk];and_intros<;>(try omega);apply Z;apply aR;refine zk [2,3,4,66,67] ?_;refine aY (fun(k:Nat)=> [(67,.d (.v (.int .i64 (k:Int)))),(5,.d (.any))]) [4,5,67,68,69,70,71,72,73,74,75,76,77,78,79,80,81] (fun(k:Nat)=>k<=a.classes.length) (fun(k:Nat)=>a.classes.length - k) (0) (by simp <;> rfl) ?_ ?_ ?_
 .simp
 .simp
 rintro k hk;simp only [aQ,aO];refine bB fun _ _ Z=>?_;simp(disch:=omega)[hk];apply Z;apply aE;refine zI ?_ ?_<;>intro c8<;>try simp at c8
 .apply jM;refine bB fun _ _ Z=>?_;simp(disch:=omega)[hk];apply Z;refine zd ⟨[],[],[],[],[]⟩ [.op {},.op {rL:=true},.op {},.op {},.op {},.op {},.op {rL:=true},.op {},.op {},.op {},.op {}] fun all hall _ Z=>?_;refine kF 8 fun _ Y=>?_;simp(disch:=omega)[hk];and_intros<;>(try omega);apply Y;simp(disch:=omega)[hk];and_intros<;>(try omega);apply Z;refine zI ?_ ?_<;>intro c9<;>try simp at c9
  apply mS;refine zk [2,3,5,66,67] ?_;refine pF fun _ _ Z=>?_;simp(disch:=omega)[hk];and_intros<;>(try omega);apply Z;refine zq (k+1) ?_ ?_ ?_
  .omega
  .try dsimp only
   omega
  simp(disch:=omega)[hk]
 apply zE;apply aE;refine bB fun _ _ Z=>?_;simp(disch:=omega)[hk];and_intros<;>(try omega);apply Z;apply aR;refine zk [2,3,84,85] ?_;refine aY (fun(k:Nat)=> [(85,.d (.v (.int .i64 (k:Int)))),(6,.d (.any))]) [4,6,85,86,87,88,89,90,91,92,93,94,95,96,97,98,99] (fun(k:Nat)=>k<=a.attrs.length) (fun(k:Nat)=>a.attrs.length - k) (0) (by simp <;> rfl) ?_ ?_ ?_
 .simp
 .simp
 rintro k hk;simp only [aQ,aO];refine bB fun _ _ Z=>?_;simp(disch:=omega)[hk];apply Z;apply aE;refine zI ?_ ?_<;>intro c10<;>try simp at c10
 .apply jM;refine bB fun _ _ Z=>?_;simp(disch:=omega)[hk];apply Z;refine zd ⟨[],[],[],[],[]⟩ [.op {},.op {rL:=true},.op {},.op {},.op {},.op {},.op {rL:=true},.op {},.op {},.op {},.op {}] fun all hall _ Z=>?_;refine kF 8 fun _ Y=>?_;simp(disch:=omega)[hk];and_intros<;>(try omega);apply Y;simp(disch:=omega)[hk];and_intros<;>(try omega);apply Z;refine zI ?_ ?_<;>intro c11<;>try simp at c11
  apply mS;refine zk [2,3,6,84,85] ?_;refine pF fun _ _ Z=>?_;simp(disch:=omega)[hk];and_intros<;>(try omega);apply Z;refine zq (k+1) ?_ ?_ ?_
  .omega
  .try dsimp only
   omega
  simp(disch:=omega)[hk]
 apply zE;apply aE;refine bB fun _ _ Z=>?_;simp(disch:=omega)[hk];and_intros<;>(try omega);apply Z;apply aR;refine zk [2,3,102,103] ?_;refine aY (fun(k:Nat)=> [(103,.d (.v (.int .i64 (k:Int)))),(7,.d (.any))]) [4,7,103,104,105,106,107,108,109,110,111,112,113,114,115,116,117] (fun(k:Nat)=>k<=a.styles.length) (fun(k:Nat)=>a.styles.length - k) (0) (by simp <;> rfl) ?_ ?_ ?_
 .simp
 .simp
 rintro k hk;simp only [aQ,aO];refine bB fun _ _ Z=>?_;simp(disch:=omega)[hk];apply Z;apply aE;refine zI ?_ ?_<;>intro c12<;>try simp at c12
 .apply jM;refine bB fun _ _ Z=>?_;simp(disch:=omega)[hk];apply Z;refine zd ⟨[],[],[],[],[]⟩ [.op {},.op {rL:=true},.op {},.op {},.op {},.op {},.op {rL:=true},.op {},.op {},.op {},.op {}] fun all hall _ Z=>?_;refine kF 8 fun _ Y=>?_;simp(disch:=omega)[hk];and_intros<;>(try omega);apply Y;simp(disch:=omega)[hk];and_intros<;>(try omega);apply Z;refine zI ?_ ?_<;>intro c13<;>try simp at c13
  apply mS;refine zk [2,3,7,102,103] ?_;refine pF fun _ _ Z=>?_;simp(disch:=omega)[hk];and_intros<;>(try omega);apply Z;refine zq (k+1) ?_ ?_ ?_
  .omega
  .try dsimp only
   omega
  simp(disch:=omega)[hk]
 apply zE;apply aE;refine bB fun _ _ Z=>?_;simp(disch:=omega)[hk];and_intros<;>(try omega);apply Z;apply aR;refine zk [2,3,120,121] ?_;refine aY (fun(k:Nat)=> [(121,.d (.v (.int .i64 (k:Int)))),(8,.d (.any))]) [4,8,121,122,123,124,125,126,127,128,129,130,131,132,133,134,135,136] (fun(k:Nat)=>k<=a.kids.length) (fun(k:Nat)=>a.kids.length - k) (0) (by simp <;> rfl) ?_ ?_ ?_
 .simp
 .simp
 rintro k hk;simp only [aQ,aO];refine bB fun _ _ Z=>?_;simp(disch:=omega)[hk];apply Z;apply aE;refine zI ?_ ?_<;>intro c14<;>try simp at c14
 .apply jM;refine bB fun _ _ Z=>?_;simp(disch:=omega)[hk];apply Z;refine zk [2,3,8,120,121] ?_;refine zd ⟨[],[],[],[],[]⟩ [.op {},.op {rL:=true},.op {},.op {},.op {},.op {},.op {rL:=true},.op {},.op {},.op {},.pure,.op {}] fun all hall _ Z=>?_;refine kF 8 fun _ Y=>?_;simp(disch:=omega)[hk];and_intros<;>(try omega);apply Y;refine kF 2 fun _ Y=>?_;simp(disch:=omega)[hk];and_intros<;>(try omega);apply Y;refine bY fun _ Y=>?_;simp(disch:=omega)[hk];refine wI (fun _=>(ih k (by omega) (by omega) _)) ?_;apply Y;simp(disch:=omega)[hk];apply Z;refine zI ?_ ?_<;>intro c15<;>try simp at c15
  apply mS;refine zk [2,3,8,120,121] ?_;refine pF fun _ _ Z=>?_;simp(disch:=omega)[hk];and_intros<;>(try omega);apply Z;refine zq (k+1) ?_ ?_ ?_
  .omega
  .try dsimp only
   omega
  simp(disch:=omega)[hk]
 apply zE;refine bB fun _ _ Z=>?_;simp(disch:=omega)[hk];apply Z;apply aC;simp [aH]
structure LK where
 kind:Int
 move:Int
 DX:Int
 DY:Int
 deriving DecidableEq
@[simp] abbrev aBc(s:LK):D:= .agg [.v (.int .i64 s.kind),.v (.int .i64 s.move),.v (.int .i64 s.DX),.v (.int .i64 s.DY)]
def aW9:ByteArray:=⟨#[116,45,119,97,105,116]⟩
def aZb:ByteArray:=⟨#[116,45,101,110,116,101,114,45,102,114,111,109]⟩
def aXz:ByteArray:=⟨#[116,45,101,110,116,101,114,45,97,99,116,105,118,101]⟩
def aZu:ByteArray:=⟨#[116,45,101,110,116,101,114,45,116,111]⟩
def aWn:ByteArray:=⟨#[116,45,104,111,108,100]⟩
def aYq:ByteArray:=⟨#[116,45,108,101,97,118,101,45,102,114,111,109]⟩
def aW2:ByteArray:=⟨#[116,45,108,101,97,118,101,45,97,99,116,105,118,101]⟩
def aYu:ByteArray:=⟨#[116,45,108,101,97,118,101,45,116,111]⟩
def aW0:ByteArray:=⟨#[116,45,109,111,118,101]⟩
def aLn:ByteArray:=⟨#[116,45,103,104,111,115,116]⟩
def mDx:ByteArray:=⟨#[116,45,100,120]⟩
def mDy:ByteArray:=⟨#[116,45,100,121]⟩
def aCm(x:LK):Bool:=decide (x.kind=5) || decide (x.kind=6)
def Kh(x:LK):Bool:=decide (x.kind=4) || aCm x
def rJ(x:LK):Ls:=if x.kind=1 then [aW9] else if x.kind=2 then [aZb,aXz] else if x.kind=3 then [aXz,aZu] else if x.kind=4 then [aWn] else if x.kind=5 then [aYq,aW2] else if x.kind=6 then [aW2,aYu] else []
def pL(x:LK):Ls:=if x.move=0 then rJ x else rJ x++ [aW0]
theorem Jj(x:LK):(rJ x).length<=2:=by unfold rJ;(repeat' split) <;> simp
theorem Sm(x:LK):(pL x).length<=3:=by unfold pL;have:=Jj x;split <;> simp <;> omega
theorem aPg(x:LK)(σ:List (List D))  :Ct prog 223 [aBc x] σ (fun r σ'=>r= .bool (aCm x)/\σ'=σ):=by
 refine zf func223 ?_;refine bB fun _ _ Z=>?_;simp;apply Z;refine mH ⟨[],[],[],[],[]⟩ fun all hall _ Z=>?_;have ga3:aN all 3=some 6:=hall 3;refine zs 4 fun _ Y=>?_;simp[ga3];apply Y;refine zb 6 ?_ ?_<;>intro g1<;>try simp at g1
 .simp[ga3];apply Z;apply aC;simp [aH,aCm, *]
 simp[ga3];apply Z;apply aC;simp [aH,aCm, *]
theorem aNk(x:LK)(σ:List (List D))  :Ct prog 181 [aBc x] σ (fun r σ'=>r= .bool (Kh x)/\σ'=σ):=by
 refine zf func181 ?_;refine bB fun _ _ Z=>?_;simp;apply Z;refine mH ⟨[],[],[],[],[]⟩ fun all hall _ Z=>?_;have ga3:aN all 3=some 6:=hall 3;refine zs 4 fun _ Y=>?_;simp[ga3];apply Y;refine zb 6 ?_ ?_<;>intro g1<;>try simp at g1
 .simp[ga3];apply Z;apply aC;simp [aH,Kh, *]
 refine zs 1 fun _ Y=>?_;simp[ga3];apply Y;refine zg ga3 fun _ Y=>?_;simp[ga3];refine cT (aPg x _) ?_;apply Y;simp[ga3];apply Z;apply aC;simp [aH,Kh, *]
theorem aMf(x:LK)(σ:List (List D))  :Ct prog 222 [aBc x] σ (fun r σ'=>r= .sl true ((rJ x).map D.str)/\σ'=σ):=by
 refine zf func222 ?_;refine zr ⟨[2],[],[],[],[]⟩ fun _ _ Z=>?_;simp(disch:=omega)[gC];apply Z;apply aE;refine zr ⟨[2],[],[],[],[]⟩ fun _ _ Z=>?_;simp(disch:=omega)[gC];apply Z;apply aR;refine zr ⟨[2],[],[],[],[]⟩ fun _ _ Z=>?_;simp(disch:=omega)[gC];apply Z;refine zI ?_ ?_<;>intro c1<;>try simp at c1
 .refine zr ⟨[2],[],[],[],[]⟩ fun _ _ Z=>?_;simp(disch:=omega)[gC];and_intros<;>(try omega);apply Z;apply aC;simp [aH,rJ, *];first | done | rfl | exact⟨rfl,rfl⟩ | exact⟨rfl,rfl,rfl⟩
 refine zr ⟨[2],[],[],[],[]⟩ fun _ _ Z=>?_;simp(disch:=omega)[gC];apply Z;refine zI ?_ ?_<;>intro c2<;>try simp at c2
 .refine zr ⟨[2],[],[],[],[]⟩ fun _ _ Z=>?_;simp(disch:=omega)[gC];and_intros<;>(try omega);apply Z;apply aC;simp [aH,rJ, *];first | done | rfl | exact⟨rfl,rfl⟩ | exact⟨rfl,rfl,rfl⟩
 refine zr ⟨[2],[],[],[],[]⟩ fun _ _ Z=>?_;simp(disch:=omega)[gC];apply Z;refine zI ?_ ?_<;>intro c3<;>try simp at c3
 .refine zr ⟨[2],[],[],[],[]⟩ fun _ _ Z=>?_;simp(disch:=omega)[gC];and_intros<;>(try omega);apply Z;apply aC;simp [aH,rJ, *];first | done | rfl | exact⟨rfl,rfl⟩ | exact⟨rfl,rfl,rfl⟩
 refine zr ⟨[2],[],[],[],[]⟩ fun _ _ Z=>?_;simp(disch:=omega)[gC];apply Z;refine zI ?_ ?_<;>intro c4<;>try simp at c4
 .refine zk [2] ?_;refine zr ⟨[2],[],[],[],[]⟩ fun _ _ Z=>?_;simp(disch:=omega)[gC];and_intros<;>(try omega);apply Z;apply aC;simp [aH,rJ, *];first | done | rfl | exact⟨rfl,rfl⟩ | exact⟨rfl,rfl,rfl⟩
 refine zk [2,4] ?_;refine zr ⟨[2],[],[],[],[]⟩ fun _ _ Z=>?_;simp(disch:=omega)[gC];apply Z;refine zI ?_ ?_<;>intro c5<;>try simp at c5
 .refine zr ⟨[2],[],[],[],[]⟩ fun _ _ Z=>?_;simp(disch:=omega)[gC];and_intros<;>(try omega);apply Z;apply aC;simp [aH,rJ, *];first | done | rfl | exact⟨rfl,rfl⟩ | exact⟨rfl,rfl,rfl⟩
 refine zr ⟨[2],[],[],[],[]⟩ fun _ _ Z=>?_;simp(disch:=omega)[gC];apply Z;refine zI ?_ ?_<;>intro c6<;>try simp at c6
 .refine zr ⟨[2],[],[],[],[]⟩ fun _ _ Z=>?_;simp(disch:=omega)[gC];and_intros<;>(try omega);apply Z;apply aC;simp [aH,rJ, *];first | done | rfl | exact⟨rfl,rfl⟩ | exact⟨rfl,rfl,rfl⟩
 apply mS;refine zr ⟨[2],[],[],[],[]⟩ fun _ _ Z=>?_;simp(disch:=omega)[gC];apply Z;apply aC;simp [aH,rJ, *];first | done | rfl | exact⟨rfl,rfl⟩ | exact⟨rfl,rfl,rfl⟩
@[simp] abbrev q40_3:Cfg:=⟨[2,3,9,12],[],[],[],[]⟩
theorem Wb(x:LK)(σ:List (List D))  :Ct prog 180 [aBc x] σ (fun r σ'=>r= .sl true ((pL x).map D.str)/\σ'=σ):=by
 refine zf func180 ?_;have hml:=Jj x;refine zr q40_3 fun _ _ Z=>?_;simp(disch:=omega);apply Z;refine zr q40_3 fun _ _ Z=>?_;refine zs 1 fun _ Y=>?_;simp(disch:=omega);apply Y;refine aF fun _ Y=>?_;simp(disch:=omega);refine cT (aMf x _) ?_;apply Y;simp(disch:=omega);apply Z;apply aE;refine zr q40_3 fun _ _ Z=>?_;simp(disch:=omega);apply Z;refine zI ?_ ?_<;>intro c1<;>try simp at c1
 .refine zt q40_3 fun _ _ Z=>?_;simp(disch:=omega);and_intros<;>(try omega);apply Z;apply fW;refine zk [2,3] ?_;refine zr q40_3 fun _ _ Z=>?_;simp(disch:=omega);apply Z;apply aC;simp [aH,pL, *];first | done | rfl
 apply zA;refine zr q40_3 fun _ _ Z=>?_;simp(disch:=omega);apply Z;apply aC;simp [aH,pL, *];first | done | rfl
@[simp] abbrev q40_4:Cfg:=⟨[0,4,25,26],[],[],[],[10,12,19,20,22,24,25]⟩
theorem aGt(n:Nat)(σ:List (List D))(hn:n<=1000000):Ct prog 221 [.v (.slice none 0 0),D.int n] σ (fun r σ'=>wP 1 [] r/\σ'=σ):=by
 refine zf func221 ?_;refine zr q40_4 fun _ _ Z=>?_;simp(disch:=first|omega|assumption);apply Z;apply aE;refine zr q40_4 fun _ _ Z=>?_;simp(disch:=first|omega|assumption);apply Z;refine zI ?_ ?_<;>intro c1<;>try simp at c1
 .exfalso;omega
 apply zA;apply aE;refine zr q40_4 fun _ _ Z=>?_;simp(disch:=first|omega|assumption);and_intros<;>try first|omega|exact rfl
 apply Z;refine zr q40_4 fun _ _ Z=>?_;simp(disch:=first|omega|assumption);apply Z;refine zI ?_ ?_<;>intro c2<;>try simp at c2
 .refine zk [0,1,4] ?_;refine zt q40_4 fun _ _ Z=>?_;refine zs 8 fun _ Y=>?_;simp(disch:=first|omega|assumption);and_intros<;>try first|omega|exact rfl
  apply Y;simp(disch:=first|omega|assumption);and_intros<;>try first|omega|exact rfl
  apply Z;apply fW;refine zk [0,4] ?_;refine zr q40_4 fun _ _ Z=>?_;simp(disch:=first|omega|assumption);apply Z;apply aC;simp [aH,wP]
 apply zA;refine zk [0,4] ?_;refine zr q40_4 fun _ _ Z=>?_;simp(disch:=first|omega|assumption);apply Z;apply aC;simp [aH,wP]
theorem aJm(n:Nat)(σ:List (List D))(hn:n<=1000000):Ct prog 221 [.v (.slice none 0 0),D.int n] σ (fun r σ'=>r= .xs 1 []/\σ'=σ):=(aGt n σ hn).toX fun _ _ h=>h
def Ba(a b:Ls)(k:Nat):Ls:=if k=0 then [] else if k=1 then a else a++b
theorem Vj(a b:Ls)(k:Nat):(Ba a b k).length<=a.length+b.length:=by
 unfold Ba;(repeat' split) <;> simp
def atK(a b:Ls)(k:Nat):Ls:=if k=0 then a else b
theorem aB5(a b:Ls)(k:Nat):(atK a b k).length<=a.length+b.length:=by unfold atK;split <;> omega
theorem aR0(a b:Ls)(k:Nat):k<2->([D.sl false (a.map D.str),D.sl false (b.map D.str)][k]?).getD D.any= .sl false ((atK a b k).map D.str):=by
 intro h
 match k,h with
 | 0,_=>rfl
 | 1,_=>rfl
theorem Nn {a b:Ls} {k:Nat} (h:k<2):Ba a b (k+1)=Ba a b k++atK a b k:=by
 match k,h with
 | 0,_=>simp [Ba,atK]
 | 1,_=>simp [Ba,atK]
theorem aLy {a b:Ls} {k:Nat} (h:k<2):(Ba a b (k+1)).length=(Ba a b k).length+(atK a b k).length:=by rw [Nn h,aZ]
@[simp] abbrev q40_5:Cfg:=⟨[2,6,24,31,33,35],[],[],[33],[]⟩
theorem Un(a b:Ls)(σ:List (List D))(ha:a.length<=99999)(hb:b.length<=99999):Ct prog 179 [.sl false [.sl false (a.map D.str),.sl false (b.map D.str)]] σ (fun r σ'=>r= .xs 1 ((a++b).map D.str)/\σ'=σ):=by
 refine zf func179 ?_;have hget:=aR0 a b;refine zr q40_5 fun _ _ Z=>?_;simp(disch:=first|omega|assumption)[hget];apply Z;refine zr q40_5 fun _ _ Z=>?_;simp(disch:=first|omega|assumption)[hget];apply Z;apply aE;refine zr q40_5 fun _ _ Z=>?_;simp(disch:=first|omega|assumption)[hget];and_intros<;>try first|omega|exact rfl
 apply Z;apply aR;refine zk [0,2,3,9,10,11] ?_;refine aY (fun(k:Nat)=> [(11,.d (.v (.int .i64 (k:Int)))),(3,.d (.int (((Ba a b k).length:Nat):Int))),(5,.d (.any))]) [3,5,11,12,13,14,15,16,17,18,19,20,21,22] (fun(k:Nat)=>k<=2) (fun(k:Nat)=>2 - k) (0) (by simp <;> rfl) ?_ ?_ ?_
 .simp [Ba]
 .simp
 rintro k hk;simp only [aQ,aO];have hqs:=Vj a b k;have hql:=aB5 a b k;refine zr q40_5 fun _ _ Z=>?_;simp(disch:=first|omega|assumption)[hget];apply Z;apply aE;refine zI ?_ ?_<;>intro c1<;>try simp at c1
 .have hsu:=aLy (a:=a) (b:=b) (k:=k) (by omega);apply jM;refine zr q40_5 fun _ _ Z=>?_;simp(disch:=first|omega|assumption)[hget];and_intros<;>try first|omega|exact rfl
  apply Z;refine zr q40_5 fun _ _ Z=>?_;simp(disch:=first|omega|assumption)[hget];and_intros<;>try first|omega|exact rfl
  apply Z;refine zk [0,2,3,5,9,10,11] ?_;refine zr q40_5 fun _ _ Z=>?_;simp(disch:=first|omega|assumption)[hget];apply Z;refine zI ?_ ?_<;>intro c2<;>try simp at c2
  .exfalso;omega
  apply mS;refine zt q40_5 fun _ _ Z=>?_;simp(disch:=first|omega|assumption)[hget];and_intros<;>try first|omega|exact rfl
  apply Z;refine zq (k+1) ?_ ?_ ?_
  .omega
  .try dsimp only
   omega
  simp(disch:=first|omega|assumption)[hget,hsu]
 obtain rfl:k=2:=by omega
 have h2:(Ba a b 2).length=a.length+b.length:=by simp [Ba]
 rw [h2];apply zE;refine zr q40_5 fun _ _ Z=>?_;refine zs 1 fun _ Y=>?_;simp(disch:=first|omega|assumption)[hget];apply Y;refine aF fun _ Y=>?_;simp(disch:=first|omega|assumption)[hget];refine cT (aJm (a.length+b.length) _ (by omega)) ?_;apply Y;simp(disch:=first|omega|assumption)[hget];apply Z;apply aE;refine zr q40_5 fun _ _ Z=>?_;simp(disch:=first|omega|assumption)[hget];and_intros<;>try first|omega|exact rfl
 apply Z;apply aR;refine zk [2,6,25,26,27] ?_;refine aY (fun(k:Nat)=> [(27,.d (.v (.int .i64 (k:Int)))),(6,.d (.xs 1 ((Ba a b k).map D.str))),(8,.d (.any))]) [6,8,27,28,29,30,31,32,33,34] (fun(k:Nat)=>k<=2) (fun(k:Nat)=>2 - k) (0) (by simp <;> rfl) ?_ ?_ ?_
 .simp [Ba]
 .simp
 rintro k hk;simp only [aQ,aO];have hqs:=Vj a b k;have hql:=aB5 a b k;refine zr q40_5 fun _ _ Z=>?_;simp(disch:=first|omega|assumption)[hget];apply Z;apply aE;refine zI ?_ ?_<;>intro c3<;>try simp at c3
 .have hnx:=Nn (a:=a) (b:=b) (k:=k) (by omega);apply jM;refine zr q40_5 fun _ _ Z=>?_;simp(disch:=first|omega|assumption)[hget];and_intros<;>try first|omega|exact rfl
  apply Z;refine zt q40_5 fun _ _ Z=>?_;simp(disch:=first|omega|assumption)[hget];and_intros<;>try first|omega|exact rfl
  apply Z;apply zB;refine zk [2,6,8,25,26,27] ?_;refine zt q40_5 fun _ _ Z=>?_;simp(disch:=first|omega|assumption)[hget];and_intros<;>try first|omega|exact rfl
  apply Z;refine zq (k+1) ?_ ?_ ?_
  .omega
  .try dsimp only
   omega
  simp(disch:=first|omega|assumption)[hget,hnx]
 obtain rfl:k=2:=by omega
 apply zE;refine zr q40_5 fun _ _ Z=>?_;simp(disch:=first|omega|assumption)[hget];apply Z;apply aC;simp [aH,Ba]
theorem Ya(a b:Ls)(σ:List (List D))(ha:a.length<=99999)(hb:b.length<=99999):Ct prog 179 [.sl false [.sl false (a.map D.str),.sl false (b.map D.str)]] σ (fun r σ'=>r= .sl false ((a++b).map D.str)/\σ'=σ):=(Un a b σ ha hb).freeze fun r σ' h=>h
def aFu(x:LK)(o:OW):List AT:=if Kh x=true then fU nA (iC nA o.attrs) ⟨aLn,⟨#[]⟩⟩else iC nA o.attrs
def aDq(x:LK)(o:OW):List PI:=if x.move=1 then fU nP (fU nP (iC nP o.styles) ⟨mDx,x.DX⟩) ⟨mDy,x.DY⟩else iC nP o.styles
def Nh(x:LK)(o:OW):OW:=⟨bU (o.classes++pL x),aFu x o,aDq x o⟩
theorem aV6(N:Nat)(o:OW):Sc N (Ey o):=Sc.agg fun d hd=>by
 simp only [bM,gX,iB] at hd;rcases hd with rfl | rfl | rfl
 .exact Sc.sl (Sc.map fun a=>Sf _ a)
 .exact Sc.sl (Sc.map fun a=>Tc _ a)
 exact Sc.sl (Sc.map fun a=>Rr _ a)
theorem aLk(x:LK)(o:OW)(σ:List (List D))(h1:o.classes.length<=9999)(h2:o.attrs.length<=9999)(h3:o.styles.length<=9999):Ct prog 95 [aBc x,Ey o] σ (fun r σ'=>(r.plain=true/\r.strip=Ey (Nh x o))/\∃J,σ'=σ++J):=by
 refine zf func95 ?_;have hcl:=Sm x;have ha:=iI nA o.attrs;have hp:=iI nP o.styles;have hsa:=gL nA o.attrs;have hsp:=gL nP o.styles;have hpl:=Cx nP (iC nP o.styles) ⟨mDx,x.DX⟩;refine zr ⟨[],[],[5],[],[]⟩ fun _ _ Z=>?_;simp(disch:=omega)[aI,aG,gC];apply Z;refine zd ⟨[],[],[5],[],[]⟩ [.op {},.op {rL:=true},.op {rL:=true},.pure,.op {},.pure,.pure,.op {},.op {rL:=true},.pure,.op {},.op {rL:=true},.pure,.op {},.op {rO:=true,wO:=true},.op {rO:=true,wO:=true}] fun all hall _ Z=>?_;refine kF 3 fun _ Y=>?_;simp(disch:=omega)[aI,aG,gC];apply Y;refine bY fun _ Y=>?_;simp(disch:=omega)[aI,aG,gC];refine wI (fun _=>(Wb x _)) ?_;apply Y;refine kF 1 fun _ Y=>?_;simp(disch:=omega)[aI,aG,gC];and_intros<;>(try omega);apply Y;refine bY fun _ Y=>?_;simp(disch:=omega)[aI,aG,gC];refine wI (fun _=>(Ya o.classes (pL x) _ (by omega) (by omega))) ?_;apply Y;refine bY fun _ Y=>?_;simp(disch:=omega)[aI,aG,gC];refine wI (fun _=>(Cu (o.classes++pL x) _ (by simp;omega))) ?_;apply Y;refine kF 2 fun _ Y=>?_;simp(disch:=omega)[aI,aG,gC];apply Y;refine bY fun _ Y=>?_;simp(disch:=omega)[aI,aG,gC];refine wI (fun _=>(aCf o.attrs _ (by omega))) ?_;apply Y;refine kF 2 fun _ Y=>?_;simp(disch:=omega)[aI,aG,gC];apply Y;refine bY fun _ Y=>?_;simp(disch:=omega)[aI,aG,gC];refine wI (fun _=>(aB4 o.styles _ (by omega))) ?_;apply Y;simp(disch:=omega)[aI,aG,gC];and_intros<;>(try omega);apply Z;apply aE;refine zk [2,4,5] ?_;refine zr ⟨[],[],[5],[],[]⟩ fun _ _ Z=>?_;refine zs 1 fun _ Y=>?_;simp(disch:=omega)[aI,aG,gC];apply Y;refine aF fun _ Y=>?_;simp(disch:=omega)[aI,aG,gC];refine cT (aNk x _) ?_;apply Y;simp only [eJ];apply Z;refine zI ?_ ?_<;>intro c1<;>try simp at c1
 .refine zt ⟨[],[],[5],[],[]⟩ fun _ _ Z=>?_;refine zs 2 fun _ Y=>?_;simp(disch:=omega)[aI,aG,gC];apply Y;refine aF fun _ Y=>?_;simp(disch:=omega)[aI,aG,gC];refine cT (aCi (iC nA o.attrs) aLn ⟨#[]⟩ _ (by omega) hsa) ?_;apply Y;simp(disch:=omega)[aI,aG,gC];apply Z;apply fW;apply aE;refine zr ⟨[],[],[5],[],[]⟩ fun _ _ Z=>?_;simp(disch:=omega)[aI,aG,gC];apply Z;refine zI ?_ ?_<;>intro c2<;>try simp at c2
  .refine zk [2,4,5] ?_;refine ze ⟨[],[],[5],[],[]⟩ [.op {},.op {rO:=true},.op {},.op {rL:=true},.pure,.op {},.op {rL:=true},.pure,.op {},.op {rO:=true,wO:=true}] fun all hall _ Z=>?_;refine kF 4 fun _ Y=>?_;simp(disch:=omega)[aI,aG,gC];apply Y;refine bY fun _ Y=>?_;simp(disch:=omega)[aI,aG,gC];refine wI (fun _=>(Cj (iC nP o.styles) mDx x.DX _ (by omega) hsp)) ?_;apply Y;refine kF 2 fun _ Y=>?_;simp(disch:=omega)[aI,aG,gC];apply Y;refine bY fun _ Y=>?_;simp(disch:=omega)[aI,aG,gC];refine wI (fun _=>(Cj (fU nP (iC nP o.styles) ⟨mDx,x.DX⟩) mDy x.DY _ (by omega) (nI nP hsp _))) ?_;apply Y;simp(disch:=omega)[aI,aG,gC];apply Z;apply fW;refine zk [4,5] ?_;refine zr ⟨[],[],[5],[],[]⟩ fun _ _ Z=>?_;simp(disch:=omega)[aI,aG,gC];apply Z;apply aC;simp [aH,Nh,aFu,aDq, *]
  apply zA;refine zk [4,5] ?_;refine zr ⟨[],[],[5],[],[]⟩ fun _ _ Z=>?_;simp(disch:=omega)[aI,aG,gC];apply Z;apply aC;simp [aH,Nh,aFu,aDq, *]
 apply zA;apply aE;refine zr ⟨[],[],[5],[],[]⟩ fun _ _ Z=>?_;simp(disch:=omega)[aI,aG,gC];apply Z;refine zI ?_ ?_<;>intro c3<;>try simp at c3
 .refine ze ⟨[],[],[5],[],[]⟩ [.op {},.op {rO:=true},.op {},.op {rL:=true},.pure,.op {},.op {rL:=true},.pure,.op {},.op {rO:=true,wO:=true}] fun all hall _ Z=>?_;refine kF 4 fun _ Y=>?_;simp(disch:=omega)[aI,aG,gC];apply Y;refine bY fun _ Y=>?_;simp(disch:=omega)[aI,aG,gC];refine wI (fun _=>(Cj (iC nP o.styles) mDx x.DX _ (by omega) hsp)) ?_;apply Y;refine kF 2 fun _ Y=>?_;simp(disch:=omega)[aI,aG,gC];apply Y;refine bY fun _ Y=>?_;simp(disch:=omega)[aI,aG,gC];refine wI (fun _=>(Cj (fU nP (iC nP o.styles) ⟨mDx,x.DX⟩) mDy x.DY _ (by omega) (nI nP hsp _))) ?_;apply Y;simp(disch:=omega)[aI,aG,gC];apply Z;apply fW;refine zk [4,5] ?_;refine zr ⟨[],[],[5],[],[]⟩ fun _ _ Z=>?_;simp(disch:=omega)[aI,aG,gC];apply Z;apply aC;simp [aH,Nh,aFu,aDq, *]
 apply zA;refine zr ⟨[],[],[5],[],[]⟩ fun _ _ Z=>?_;simp(disch:=omega)[aI,aG,gC];apply Z;apply aC;simp [aH,Nh,aFu,aDq, *]
theorem aRr(x:LK)(o:OW)(σ:List (List D))(h1:o.classes.length<=9999)(h2:o.attrs.length<=9999)(h3:o.styles.length<=9999):Ct prog 95 [aBc x,Ey o] σ (fun r σ'=>r=Ey (Nh x o)/\σ'=σ):=
 have h:Ct prog 95 [aBc x,Ey o] σ (fun r σ'=>r=Ey (Nh x o)/\∃J,σ'=σ++J):=(aLk x o σ h1 h2 h3).strip fun r σ' h=>⟨h.1.1,h.1.2,h.2⟩
 h.trim fun r σ' ⟨hr,J,hs⟩=>⟨σ,J,hs,rfl,by rw [hr];exact aV6 _ _,fun n cs h=> .inl h,hr,rfl⟩
end Go.Proofs.YtbgfljpnhhdkoaaGreat
