import Derived.Test.YtbgfljpnhhdkoaaGreatWkDr11
set_option linter.all false
set_option maxRecDepth 20000
set_option maxHeartbeats 8000000
open Go.Proofs.Tryz
namespace Go.Proofs.YtbgfljpnhhdkoaaGreat
open Go Go.Vm
variable {j:Nat}{l:List VN}{v:VN}
def sU(v:VN)(j:Nat):List VN:=((v.kids.take j).filter kI).map fN
theorem aOr(v:VN):sU v 0= []:=rfl
theorem Oo(v:VN)(j:Nat):(sU v j).length<=j:=by
 unfold sU;rw [bQ];have:=kH kI (v.kids.take j);simp only [bG] at this;omega
theorem Xk (h:j<v.kids.length)(hk:kI v.kids[j]=false):sU v (j+1)=sU v j:=by
 unfold sU;rw [bS _ _ h,fY,rX (by simp [hk]),lG,gG]
theorem Kx (h:j<v.kids.length)(hk:kI v.kids[j]=true):sU v (j+1)=sU v j++ [fN v.kids[j]]:=by
 unfold sU;rw [bS _ _ h,fY,pY hk,lG,cN];rfl
theorem aDw(v:VN):iA (sU v v.kids.length)=(fN v).kids:=by
 rw [lT];unfold sU;rw [eP,List.filter_map];congr 2;exact gX fun x _=>(aEa x).symm
theorem aCu(l:List VN):(iA l).length<=l.length:=by
 have:∀(l o:List VN),(l.foldl nM o).length<=o.length+l.length:=by
  intro l;induction l with
  | nil=>intro o;simp
  | cons a l ih=>
   intro o;have h1:=ih (nM o a);have h2:=Oa o a;simp only [dM,bT];omega
 have:=this l [];simpa [iA] using this
theorem aEr {o q:List VN} {k:VN} (hq:nM o k=q):∃h:0<q.length,q[q.length - 1].kind=k.kind:=by
 by_cases h:0<o.length
 .by_cases h1:o[o.length - 1].kind=1/\k.kind=1
  .rw [Ba h h1.1 h1.2] at hq;subst hq;refine⟨by simpa using h,?_⟩;simp [txt,h1.1,h1.2]
  rw [oR fun _=>h1] at hq;subst hq;exact⟨by simp,by simp⟩
 rw [oR fun h'=>absurd h' h] at hq;subst hq;exact⟨by simp,by simp⟩
theorem qH {i:Nat} (h:i<l.length):iA (l.take (i+1))=nM (iA (l.take i)) l[i]:=by
 rw [bS l i h,wW]
theorem Jd {o:List VN} {i:Nat} (ho:iA (l.take i)=o)(hi:0<i)(h:i<=l.length):∃h':0<o.length,o[o.length - 1].kind=(l[i - 1]'(by omega)).kind:=by
 obtain⟨n,rfl⟩:∃n,i=n+1:=⟨i - 1,by omega⟩;rw [qH (by omega)] at ho;exact aEr ho
theorem Pl {B:Nat} (h:∀k∈l,k.text.size<=B):∀j,j<=l.length->∀k∈iA (l.take j),k.text.size<=j * B
 | 0,_=>fun k hk=>by simp [iA] at hk
 | j+1,hj=>fun k hk=>by
  have eB:(j+1) * B=j * B+B:=uC j B;rw [qH (by omega)] at hk;rw [eB];exact Nq (Pl h j (by omega)) (h _ (bP _)) k hk
abbrev aQ3(v:VN):Prop:=∀σ:List (List D),Ct prog 34 [jQ v] σ (fun r σ'=>r=jQ (fN v)/\σ'=σ)
@[simp] abbrev q43_1:Cfg:=⟨[3,6,37,79],[],[],[69,71,77,82],[]⟩
theorem aE8(v:VN)(σ:List (List D))(h:VSz v)(ih:∀k∈v.kids,aQ3 k):Ct prog 34 [jQ v] σ (fun r σ'=>(r.plain=true/\r.strip=jQ (fN v))/\∃J,σ'=σ++J):=by
 refine zf func34 ?_;obtain⟨h1,h2,h3,h4,h5⟩:=h;refine zr q43_1 fun _ _ Z=>?_;simp(disch:=omega)[iS,bC];apply Z;refine zr q43_1 fun _ _ Z=>?_;refine zs 2 fun _ Y=>?_;simp(disch:=omega)[iS,bC];apply Y;refine aF fun _ Y=>?_;simp(disch:=omega)[iS,bC];refine cU (aC8 v.classes _ (by omega)) ?_;apply Y;simp(disch:=omega)[iS,bC];apply Z;refine zr q43_1 fun _ _ Z=>?_;refine zs 2 fun _ Y=>?_;simp(disch:=omega)[iS,bC];apply Y;refine aF fun _ Y=>?_;simp(disch:=omega)[iS,bC];refine cU (aFt v.attrs _ (by omega)) ?_;apply Y;simp(disch:=omega)[iS,bC];apply Z;refine zr q43_1 fun _ _ Z=>?_;refine zs 2 fun _ Y=>?_;simp(disch:=omega)[iS,bC];apply Y;refine aF fun _ Y=>?_;simp(disch:=omega)[iS,bC];refine cU (Qx v.styles _ (by omega)) ?_;apply Y;simp(disch:=omega)[iS,bC];apply Z;refine zk [1,2] ?_;refine zr q43_1 fun _ _ Z=>?_;simp(disch:=omega)[iS,bC];and_intros<;>(try omega);apply Z;apply aE;refine zr q43_1 fun _ _ Z=>?_;simp(disch:=omega)[iS,bC];and_intros<;>(try omega);apply Z;apply aR;refine zk [1,2,3,23,24,25] ?_;refine bA (fun(j:Nat)=> [(25,.d (.v (.int .i64 (j:Int)))),(3,.d (.sl true ((sU v j).map nT)))]) [3,5,25,26,27,28,29,30,31,32,33,34,35,36,37,38,39,40,41,42] (fun(j:Nat)=>j<=v.kids.length) (fun(j:Nat)=>v.kids.length - j) (0) (by simp <;> rfl) ?_ ?_ ?_
 .simp [aOr]
 .simp
 rintro j hj;simp only [aQ,aP];have hnl:=Oo v j;refine zr q43_1 fun _ _ Z=>?_;simp(disch:=omega)[iS,bC];apply Z;apply aE;refine zI ?_ ?_<;>intro c1<;>try simp at c1
 .apply kP;refine zr q43_1 fun _ _ Z=>?_;simp(disch:=omega)[iS,bC];and_intros<;>(try omega);apply Z;refine mK q43_1 fun all hall _ Z=>?_;have ga3:aO all 3=some 32:=hall 3;refine zs 4 fun _ Y=>?_;simp(disch:=omega)[iS,bC,ga3];apply Y;refine zb 32 ?_ ?_<;>intro g2<;>try simp at g2
  .have hnx:=Kx (v:=v) c1 (by simp [kI,g2]);simp(disch:=omega)[iS,bC,ga3];apply Z;refine aZ (t:=true) (by simp) (fun _=>?_) (fun h=>by cases h);refine zk [1,2,3,5,23,24,25] ?_;refine zt q43_1 fun _ _ Z=>?_;refine zs 2 fun _ Y=>?_;simp(disch:=omega)[iS,bC];apply Y;refine aF fun _ Y=>?_;simp(disch:=omega)[iS,bC];refine cU (ih v.kids[j] (bP _) _) ?_;apply Y;simp(disch:=omega)[iS,bC];and_intros<;>(try omega);apply Z;apply zB;refine zk [1,2,3,23,24,25] ?_;refine zt q43_1 fun _ _ Z=>?_;simp(disch:=omega)[iS,bC];and_intros<;>(try omega);apply Z;refine zq (j+1) ?_ ?_ ?_
   .omega
   .try dsimp only
    omega
   simp(disch:=omega)[iS,bC,hnx]
  simp(disch:=omega)[iS,bC,ga3];apply Z;refine zI ?_ ?_<;>intro c3<;>try simp at c3
  .have hnx:=Kx (v:=v) c1 (by simp [kI,c3]);refine zk [1,2,3,5,23,24,25] ?_;refine zt q43_1 fun _ _ Z=>?_;refine zs 2 fun _ Y=>?_;simp(disch:=omega)[iS,bC];apply Y;refine aF fun _ Y=>?_;simp(disch:=omega)[iS,bC];refine cU (ih v.kids[j] (bP _) _) ?_;apply Y;simp(disch:=omega)[iS,bC];and_intros<;>(try omega);apply Z;apply zB;refine zk [1,2,3,23,24,25] ?_;refine zt q43_1 fun _ _ Z=>?_;simp(disch:=omega)[iS,bC];and_intros<;>(try omega);apply Z;refine zq (j+1) ?_ ?_ ?_
   .omega
   .try dsimp only
    omega
   simp(disch:=omega)[iS,bC,hnx]
  have hnx:=Xk (v:=v) c1 (by simp [kI,g2,c3]);apply nS;refine zk [1,2,3,23,24,25] ?_;refine zt q43_1 fun _ _ Z=>?_;simp(disch:=omega)[iS,bC];and_intros<;>(try omega);apply Z;refine zq (j+1) ?_ ?_ ?_
  .omega
  .try dsimp only
   omega
  simp(disch:=omega)[iS,bC,hnx]
 obtain rfl:j=v.kids.length:=by omega
 have hl1:=Oo v v.kids.length;have htx:∀k∈sU v v.kids.length,k.text.size<=9999:=fun k hk=>by
  unfold sU at hk;obtain⟨a,ha,rfl⟩:=aX.1 hk;rw [vC];exact h5 a (mD (cX.1 ha).1)
 have hal:=aDw v;obtain⟨l,hl⟩:∃l,sU v v.kids.length=l:=⟨_,rfl⟩;rw [hl] at hl1 htx hal |-;apply zE;refine zr q43_1 fun _ _ Z=>?_;simp(disch:=omega)[iS,bC];and_intros<;>(try omega);apply Z;apply aE;refine zr q43_1 fun _ _ Z=>?_;simp(disch:=omega)[iS,bC];and_intros<;>(try omega);apply Z;apply aR;refine zk [1,2,3,6,44,45,46] ?_;refine Bz 6 14 (by simp <;> rfl) ?_;refine nK (fun(i:Nat)=> [(46,.d (.v (.int .i64 (i:Int)))),(6,.d (.xs 14 ((iA (l.take i)).map nT))),(7,.d (.any))]) (fun(i:Nat)=> [[D.int v.kind,D.str v.tag,D.str v.key,D.str v.text,.sl true ((bV v.classes).map D.str),.sl true ((iB nA v.attrs).map cY),.sl true ((iB nP v.styles).map cQ),D.int v.opts.enter,D.int v.opts.leave,D.int v.opts.move,D.int v.opts.mode,D.bool v.opts.appear,D.bool v.opts.moves,.sl false (v.kids.map nT)], [D.int 0,D.str ⟨#[]⟩,D.str ⟨#[]⟩,D.str ⟨#[]⟩,.sl true [],.sl true [],.sl true [],D.int 0,D.int 0,D.int 0,D.int 0,D.bool false,D.bool false,.sl true []]]) (fun(i:Nat)=>σ++List.replicate i []) [6,7,8,46,47,48,49,50,51,52,53,54,55,56,57,58,59,60,61,62,63,64,65,66,67,68,69,70,71,72,73,74,75,76,77,78,79,80,81,82,83] (fun(i:Nat)=>i<=l.length) (fun(i:Nat)=>l.length - i) (0) (by simp <;> rfl) ?_ (by simp) (by simp) ?_ ?_
 .simp [iA]
 .simp
 rintro i hi;simp only [aQ,aP];have hnl:=aCu (l.take i);rw [bG] at hnl;obtain⟨ks,hks⟩:∃ks,iA (l.take i)=ks:=⟨_,rfl⟩;rw [hks] at hnl |-;refine iO 6 14 (by simp <;> rfl) (by decide) fun cap rest hcap hcm hrest hk0 hes=>?_;simp only [bQ] at hcap hrest |-;rw [qE];have hrl:rest.length=(cap - ks.length) * 14:=by rw [hrest,cO]
 clear hrest;have hdl:ks.length * 14+rest.length=cap * 14:=by omega
 have hdl2:(ks.flatMap cV++rest).length=cap * 14:=by rw [aY,Pq];exact hdl
 simp only [aY,cO,bW];refine zr q43_1 fun _ _ Z=>?_;simp(disch:=omega)[iS,bC];apply Z;apply aE;refine zI ?_ ?_<;>intro c4<;>try simp at c4
 .apply kP;refine zr q43_1 fun _ _ Z=>?_;simp(disch:=omega)[iS,bC];and_intros<;>(try omega);apply Z;refine zk [1,2,3,6,7,8,44,45,46] ?_;refine mK q43_1 fun all hall _ Z=>?_;have ga2:aO all 2=some 53:=hall 2;have ga7:aO all 7=some 58:=hall 7;refine zs 3 fun _ Y=>?_;simp(disch:=omega)[iS,bC,ga2,ga7];apply Y;refine zb 53 ?_ ?_<;>intro g5<;>try simp at g5
  .refine zs 5 fun _ Y=>?_;simp(disch:=omega)[iS,bC,ga2,ga7];apply Y;refine zb 58 ?_ ?_<;>intro g6<;>try simp at g6
   .simp(disch:=omega)[iS,bC,ga2,ga7];and_intros<;>(try omega);apply Z;refine zI ?_ ?_<;>intro c7<;>try simp at c7
    .obtain⟨hk1,hkl⟩:=Jd hks g5 hi;rw [c7] at hkl;obtain⟨hr0,hr3⟩:=aWd ks rest hk1;have hnx:iA (l.take (i+1))=ks.set (ks.length - 1) (txt ks[ks.length - 1] (ks[ks.length - 1].text++l[i].text)):=by rw [qH c4,hks,Ba hk1 hkl g6]
     have hsz:ks[ks.length - 1].text.size+l[i].text.size<=9223372036854775807:=by
      have ha:=Pl htx i hi;rw [hks] at ha;have hj9:i * 9999<=9999 * 9999:=fS _ (by omega);have ha:=ha _ (bP (by omega:ks.length - 1<ks.length));have hb:=htx l[i] (bP _);omega
     have hwr:=aUt ks rest hk1 (ks[ks.length - 1].text++l[i].text);refine zk [1,2,3,6,7,8,44,45,46] ?_;refine ze q43_1 [.op {},.op {},.op {},.op {},.op {},.op {},.op {rO:=true},.op {},.op {rL:=true},.op {},.op {},.op {},.op {rO:=true,wO:=true}] fun all hall _ Z=>?_;refine lN 8 fun _ Y=>?_;simp(disch:=omega)[iS,bC,hr3,hwr];and_intros<;>(try omega);apply Y;simp(disch:=omega)[iS,bC,hr3,hwr];and_intros<;>(try omega);apply Z;apply zB;refine fD 6 14 (σ.length+i) ks.length cap ((ks.set (ks.length - 1) (txt ks[ks.length - 1] (ks[ks.length - 1].text++l[i].text))).map nT) ((ks.set (ks.length - 1) (txt ks[ks.length - 1] (ks[ks.length - 1].text++l[i].text))).flatMap cV++rest) (by simp <;> rfl) (by simp [iS]) (by decide) (by simp only [aY,Pq,bY];omega) (by simp) (wQ _) (by rw [qE];exact cZ _ _) ?_;refine zk [1,2,3,6,7,44,45,46] ?_;refine zt q43_1 fun _ _ Z=>?_;simp(disch:=omega)[iS,bC,hr3,hwr];and_intros<;>(try omega);apply Z;refine fU (i+1) ?_ ?_ (eN rfl ?_ (by simp) (by simp [pF]))
     .omega
     .try dsimp only
      omega
     simp(disch:=omega)[iS,bC,hnx,hr3,hwr]
    obtain⟨hk1,hkl⟩:=Jd hks g5 hi;have hnx:iA (l.take (i+1))=ks++ [l[i]]:=by rw [qH c4,hks,oR fun _ h=>c7 (by rw [<- hkl];exact h.1)]
    refine zk [1,2,3,6,7,8,44,45,46] ?_;refine zt q43_1 fun _ _ Z=>?_;refine zs 4 fun _ Y=>?_;simp(disch:=omega)[iS,bC];refine⟨by first | rfl | exact⟨rfl,rfl⟩ | trivial,_,ks.map nT,⟨rfl,hdl2,by simp,wQ ks,by rw [qE];exact cZ _ _,by simp;omega,by simp [maxLen];omega⟩,?_⟩;and_intros<;>(try omega);apply Y;simp(disch:=omega)[iS,bC];apply Z;apply zB;refine zk [1,2,3,6,7,44,45,46] ?_;refine zt q43_1 fun _ _ Z=>?_;simp(disch:=omega)[iS,bC];and_intros<;>(try omega);apply Z;refine fU (i+1) ?_ ?_ (eN rfl ?_ (by simp) (by simp [pF]))
    .omega
    .try dsimp only
     omega
    simp(disch:=omega)[iS,bC,hnx]
   have hnx:iA (l.take (i+1))=ks++ [l[i]]:=by rw [qH c4,hks,oR fun _ h=>g6 h.2]
   simp(disch:=omega)[iS,bC,ga2,ga7];apply Z;refine aZ (t:=false) (by simp) (fun h=>by cases h) (fun _=>?_);refine zk [1,2,3,6,7,8,44,45,46] ?_;refine zt q43_1 fun _ _ Z=>?_;refine zs 4 fun _ Y=>?_;simp(disch:=omega)[iS,bC];refine⟨by first | rfl | exact⟨rfl,rfl⟩ | trivial,_,ks.map nT,⟨rfl,hdl2,by simp,wQ ks,by rw [qE];exact cZ _ _,by simp;omega,by simp [maxLen];omega⟩,?_⟩;and_intros<;>(try omega);apply Y;simp(disch:=omega)[iS,bC];apply Z;apply zB;refine zk [1,2,3,6,7,44,45,46] ?_;refine zt q43_1 fun _ _ Z=>?_;simp(disch:=omega)[iS,bC];and_intros<;>(try omega);apply Z;refine fU (i+1) ?_ ?_ (eN rfl ?_ (by simp) (by simp [pF]))
   .omega
   .try dsimp only
    omega
   simp(disch:=omega)[iS,bC,hnx]
  obtain rfl:i=0:=by omega
  have hnx:iA (l.take (0+1))=ks++ [l[0]]:=by rw [qH c4,hks,oR fun h _=>absurd h (by omega)]
  refine zs 5 fun _ Y=>?_;simp(disch:=omega)[iS,bC,ga2,ga7];apply Y;simp(disch:=omega)[iS,bC,ga2,ga7];apply Z;refine aZ (t:=false) (by simp) (fun h=>by cases h) (fun _=>?_);refine zk [1,2,3,6,7,8,44,45,46] ?_;refine zt q43_1 fun _ _ Z=>?_;refine zs 4 fun _ Y=>?_;simp(disch:=omega)[iS,bC];refine⟨by first | rfl | exact⟨rfl,rfl⟩ | trivial,_,ks.map nT,⟨rfl,hdl2,by simp,wQ ks,by rw [qE];exact cZ _ _,by simp;omega,by simp [maxLen];omega⟩,?_⟩;and_intros<;>(try omega);apply Y;simp(disch:=omega)[iS,bC];apply Z;apply zB;refine zk [1,2,3,6,7,44,45,46] ?_;refine zt q43_1 fun _ _ Z=>?_;simp(disch:=omega)[iS,bC];and_intros<;>(try omega);apply Z;refine fU (0+1) ?_ ?_ (eN rfl ?_ (by simp) (by simp [pF]))
  .omega
  .try dsimp only
   omega
  simp(disch:=omega)[iS,bC,hnx]
 obtain rfl:i=l.length:=by omega
 apply zE;refine zr q43_1 fun _ _ Z=>?_;simp(disch:=omega)[iS,bC];apply Z;refine Hj 0 13 (σ.length+l.length) ks.length cap 14 _ _ (ks.map nT) rfl rfl (by simp [iS]) (by decide) hdl2 (by simp) (wQ _) (by rw [qE];exact cZ _ _) ?_;simp only [iQ,iY];refine zr q43_1 fun _ _ Z=>?_;simp(disch:=omega)[iS,bC];apply Z;apply aC;rw [eP,hal] at hks;simp [aH];rw [<- hks,lT];simp
theorem Uy(v:VN)(h:VG v)(hc:cJ v<=9999):aQ3 v:=fun σ=>
 have h1:Ct prog 34 [jQ v] σ (fun r σ'=>r=jQ (fN v)/\∃J,σ'=σ++J):=(aE8 v σ (h.sz hc) fun k hk=>Uy k (h.k k hk) (by have:=eL hk;omega)).strip fun r σ' h=>⟨h.1.1,h.1.2,h.2⟩
 h1.trim fun r σ' ⟨hr,J,hs⟩=>⟨σ,J,hs,rfl,by rw [hr];exact aA8 _ _,fun n cs h=> .inl h,hr,rfl⟩
termination_by cJ v
decreasing_by
 have:=eL hk;omega
theorem aA7(x:Int): -2147483648<=As x/\As x<=2147483647:=by unfold As;omega
theorem Qg {x:Int} (h: -2147483648<=x/\x<=2147483647):As x=x:=by unfold As;omega
def aAe(a b:Int):Int:=As (As a+As b)
def Ez(l:List Int):Int:=l.foldl aAe 0
theorem aFa(l:List Int)(k:Nat)(h:k<l.length):Ez (l.take (k+1))=aAe (Ez (l.take k)) l[k]:=by
 unfold Ez;rw [bS l k h,jL];rfl
theorem aIe:∀(l:List Nat),l.sum<=1000000->Ez (l.map fun n:Nat=>(n:Int))=(l.sum:Nat):=by
 have:∀(l:List Nat) (a:Nat),a+l.sum<=1000000->(l.map fun n:Nat=>(n:Int)).foldl aAe (a:Int)=((a+l.sum:Nat):Int):=by
  intro l;induction l with
  | nil=>intro a h;simp
  | cons b l ih =>
   intro a h;simp only [iX] at h;simp only [cE,dM,iX];have e:aAe (a:Int) (b:Int)=((a+b:Nat):Int):=by
    unfold aAe;rw [Qg (x:=(a:Int)) (by omega),Qg (x:=(b:Int)) (by omega),Qg (by omega)];omega
   rw [e,ih (a+b) (by omega)];congr 1;omega
 intro l h;have:=this l 0 (by omega);simpa [Ez] using this
def szK(v:VN)(j:Nat):List Int:=((v.kids.take j).map cJ).map fun n:Nat=>(n:Int)
theorem aWn(v:VN):szK v 0= []:=rfl
theorem aNz(v:VN)(j:Nat):(szK v j).length<=j:=by unfold szK;simp;omega
theorem aJ6 (h:j<v.kids.length):szK v (j+1)=szK v j++ [(cJ v.kids[j]:Int)]:=by
 unfold szK;rw [bS _ _ h,cN,cN];rfl
theorem aA4 (h:cJ v<=9999):1+Ez (szK v v.kids.length)=(cJ v:Int):=by
 have e:=jI v;unfold szK;rw [eP,aIe _ (by omega)];omega
def uB(v:VN)(k:Nat):Nat:=((v.kids.take k).map cJ).sum
theorem aS0(v:VN):uB v 0=0:=rfl
theorem xM(v:VN)(k:Nat)(h:k<v.kids.length):uB v (k+1)=uB v k+cJ v.kids[k]:=by
 unfold uB;rw [bS _ _ h,cN,Gt];simp
theorem Uh(v:VN):uB v v.kids.length+1=cJ v:=by unfold uB;rw [eP,jI];omega
theorem Ig(v:VN)(k:Nat):uB v k+1<=cJ v:=by
 rw [jI];unfold uB;have:((v.kids.take k).map cJ).sum+((v.kids.drop k).map cJ).sum=(v.kids.map cJ).sum:=by rw [<- Gt,<- cN,eO]
 omega
abbrev aQ2(v:VN):Prop:=∀σ:List (List D),Ct prog 174 [jQ v,.clo (.func 175) [] []] σ (fun r σ'=>r=D.int (cJ v)/\σ'=σ)
abbrev aQm(v:VN):Prop:=∀σ:List (List D),Ct prog 48 [jQ v] σ (fun r σ'=>r=D.int (cJ v)/\σ'=σ)
theorem aOm(a b:Int)(σ:List (List D))  :Ct prog 220 [D.int a,D.int b] σ (fun r σ'=>r= .int (aAe a b)/\σ'=σ):=by
 refine zf func220 ?_;have hA:=aA7 a;have hB:=aA7 b;refine bF fun _ _ Z=>?_;simp;apply Z;refine bF fun _ _ Z=>?_;refine zs 1 fun _ Y=>?_;simp;apply Y;refine aF fun _ Y=>?_;simp;refine cU (Pt a _) ?_;apply Y;refine zs 1 fun _ Y=>?_;simp;apply Y;refine aF fun _ Y=>?_;simp;refine cU (Pt b _) ?_;apply Y;refine zs 1 fun _ Y=>?_;simp;and_intros<;>(try omega);apply Y;refine aF fun _ Y=>?_;simp;refine cU (Pt (As a+As b) _) ?_;apply Y;simp;apply Z;apply aC;simp [aH,aAe]
theorem aRi(l:List Int)(σ:List (List D))(hl:l.length<=99999):Ct prog 176 [.sl false (l.map D.int)] σ (fun r σ'=>r= .int (Ez l)/\σ'=σ):=by
 refine zf func176 ?_;refine bF fun _ _ Z=>?_;simp(disch:=omega);apply Z;refine bF fun _ _ Z=>?_;simp(disch:=omega);apply Z;apply aE;refine bF fun _ _ Z=>?_;simp(disch:=omega);and_intros<;>(try omega);apply Z;apply aR;refine zk [2,3,6,7,8] ?_;refine bA (fun(k:Nat)=> [(8,.d (.v (.int .i64 (k:Int)))),(3,.d (.int (Ez (l.take k)))),(5,.d (.any))]) [3,5,8,9,10,11,12,13,14,15] (fun(k:Nat)=>k<=l.length) (fun(k:Nat)=>l.length - k) (0) (by simp <;> rfl) ?_ ?_ ?_
 .simp [Ez]
 .simp
 rintro k hk;simp only [aQ,aP];refine bF fun _ _ Z=>?_;simp(disch:=omega);apply Z;apply aE;refine zI ?_ ?_<;>intro c1<;>try simp at c1
 .apply kP;refine bF fun _ _ Z=>?_;simp(disch:=omega);and_intros<;>(try omega);apply Z;refine qJ fun _ _ Z=>?_;refine zs 2 fun _ Y=>?_;simp(disch:=omega);apply Y;refine aF fun _ Y=>?_;simp(disch:=omega);refine cU (aOm (Ez (l.take k)) l[k] _) ?_;apply Y;simp(disch:=omega);apply Z;apply zB;refine zk [2,3,5,6,7,8] ?_;refine qJ fun _ _ Z=>?_;simp(disch:=omega);and_intros<;>(try omega);apply Z;refine zq (k+1) ?_ ?_ ?_
  .omega
  .try dsimp only
   omega
  simp(disch:=omega)[aFa]
 obtain rfl:k=l.length:=by omega
 rw [eP];apply zE;refine bF fun _ _ Z=>?_;simp(disch:=omega);apply Z;apply aC;simp [aH]
theorem aKm(v:VN)(l:List Int)(σ:List (List D))(hl:l.length<=99999)(hs: -9<=Ez l/\Ez l<=99999999):Ct prog 175 [jQ v,.sl false (l.map D.int)] σ (fun r σ'=>r= .int (1+Ez l)/\σ'=σ):=by
 refine zf func175 ?_;refine bF fun _ _ Z=>?_;simp;apply Z;refine bF fun _ _ Z=>?_;refine zs 1 fun _ Y=>?_;simp;apply Y;refine aF fun _ Y=>?_;simp;refine cU (aRi l _ hl) ?_;apply Y;simp;and_intros<;>(try omega);apply Z;apply aC;simp [aH]
theorem aIw(v:VN)(σ:List (List D))(hc:cJ v<=9999)(ih:∀k∈v.kids,aQ2 k):Ct prog 174 [jQ v,.clo (.func 175) [] []] σ (fun r σ'=>r= .int (cJ v)/\σ'=σ):=by
 refine zf func174 ?_;have hkl:=lP v;refine zr ⟨[5,15],[],[],[],[]⟩ fun _ _ Z=>?_;simp(disch:=omega);apply Z;refine zr ⟨[5,15],[],[],[],[]⟩ fun _ _ Z=>?_;simp(disch:=omega);apply Z;apply aE;refine zr ⟨[5,15],[],[],[],[]⟩ fun _ _ Z=>?_;simp(disch:=omega);and_intros<;>(try omega);apply Z;apply aR;refine zk [1,2,4,5,9,10,11] ?_;refine bA (fun(j:Nat)=> [(11,.d (.v (.int .i64 (j:Int)))),(5,.d (.sl true ((szK v j).map D.int))),(7,.d (.any))]) [5,7,11,12,13,14,15,16,17,18,19,20,21] (fun(j:Nat)=>j<=v.kids.length) (fun(j:Nat)=>v.kids.length - j) (0) (by simp <;> rfl) ?_ ?_ ?_
 .simp [aWn]
 .simp
 rintro j hj;simp only [aQ,aP];have hzl:=aNz v j;refine zr ⟨[5,15],[],[],[],[]⟩ fun _ _ Z=>?_;simp(disch:=omega);apply Z;apply aE;refine zI ?_ ?_<;>intro c1<;>try simp at c1
 .have hnx:=aJ6 c1;apply kP;refine zr ⟨[5,15],[],[],[],[]⟩ fun _ _ Z=>?_;simp(disch:=omega);and_intros<;>(try omega);apply Z;refine zk [1,2,4,5,7,9,10,11] ?_;refine zt ⟨[5,15],[],[],[],[]⟩ fun _ _ Z=>?_;refine zs 3 fun _ Y=>?_;simp(disch:=omega);apply Y;refine aF fun _ Y=>?_;simp(disch:=omega);refine cU (ih v.kids[j] (bP _) _) ?_;apply Y;simp(disch:=omega);and_intros<;>(try omega);apply Z;apply zB;refine zk [1,2,4,5,7,9,10,11] ?_;refine zt ⟨[5,15],[],[],[],[]⟩ fun _ _ Z=>?_;simp(disch:=omega);and_intros<;>(try omega);apply Z;refine zq (j+1) ?_ ?_ ?_
  .omega
  .try dsimp only
   omega
  simp(disch:=omega)[hnx]
 obtain rfl:j=v.kids.length:=by omega
 have hall:=aA4 hc;apply zE;refine zr ⟨[5,15],[],[],[],[]⟩ fun _ _ Z=>?_;refine zs 3 fun _ Y=>?_;simp(disch:=omega);apply Y;refine aF fun _ Y=>?_;simp(disch:=omega);refine cU (aKm v (szK v v.kids.length) _ (by omega) (by have:=aA4 hc;omega)) ?_;apply Y;simp(disch:=omega);apply Z;apply aC;simp [aH,hall]
theorem aEg(v:VN)(σ:List (List D))(hc:cJ v<=9999)(ih:∀k∈v.kids,aQm k):Ct prog 48 [jQ v] σ (fun r σ'=>r= .int (cJ v)/\σ'=σ):=by
 refine zf func48 ?_;have hkl:=lP v;refine bF fun _ _ Z=>?_;simp(disch:=omega);apply Z;refine bF fun _ _ Z=>?_;simp(disch:=omega);apply Z;apply aE;refine bF fun _ _ Z=>?_;simp(disch:=omega);and_intros<;>(try omega);apply Z;apply aR;refine zk [2,3,7,8,9] ?_;refine bA (fun(j:Nat)=> [(9,.d (.v (.int .i64 (j:Int)))),(3,.d (.v (.int .i64 ((1+uB v j):Int))))]) [3,5,9,10,11,12,13,14,15,16,17] (fun(j:Nat)=>j<=v.kids.length) (fun(j:Nat)=>v.kids.length - j) (0) (by simp <;> rfl) ?_ ?_ ?_
 .simp [aS0]
 .simp
 rintro j hj;simp only [aQ,aP];have hzl:=Ig v j;refine bF fun _ _ Z=>?_;simp(disch:=omega);apply Z;apply aE;refine zI ?_ ?_<;>intro c1<;>try simp at c1
 .have hzk:=Ig v (j+1);rw [xM v j c1] at hzk;have hnx:uB v (j+1)=uB v j+cJ v.kids[j]:=xM v j c1;apply kP;refine bF fun _ _ Z=>?_;simp(disch:=omega);and_intros<;>(try omega);apply Z;refine qJ fun _ _ Z=>?_;refine zs 2 fun _ Y=>?_;simp(disch:=omega);apply Y;refine aF fun _ Y=>?_;simp(disch:=omega);refine cU (ih v.kids[j] (bP _) _) ?_;apply Y;simp(disch:=omega);and_intros<;>(try omega);apply Z;apply zB;refine zk [2,3,7,8,9] ?_;refine qJ fun _ _ Z=>?_;simp(disch:=omega);and_intros<;>(try omega);apply Z;refine zq (j+1) ?_ ?_ ?_
  .omega
  .try dsimp only
   omega
  simp(disch:=omega)[hnx,Int.natCast_add,Int.add_assoc]
 obtain rfl:j=v.kids.length:=by omega
 have hall:=Uh v;apply zE;refine bF fun _ _ Z=>?_;simp(disch:=omega);apply Z;apply aC;simp [aH];omega
theorem aA2(v:VN)(hc:cJ v<=9999):aQ2 v:=fun σ=>aIw v σ hc fun k hk=>aA2 k (by have:=eL hk;omega)
termination_by cJ v
decreasing_by
 have:=eL hk;omega
theorem Tt(v:VN)(hc:cJ v<=9999):aQm v:=fun σ=>aEg v σ hc fun k hk=>Tt k (by have:=eL hk;omega)
termination_by cJ v
decreasing_by
 have:=eL hk;omega
theorem aPh(v:VN)(σ:List (List D))(hc:cJ v<=9999):Ct prog 92 [jQ v] σ (fun r σ'=>r= .int (cJ v)/\σ'=σ):=by
 refine zf func92 ?_;refine bF fun _ _ Z=>?_;simp;apply Z;refine bF fun _ _ Z=>?_;refine zs 1 fun _ Y=>?_;simp;apply Y;refine aF fun _ Y=>?_;simp;refine cU (aA2 v hc _) ?_;apply Y;simp;apply Z;apply aC;simp [aH]
def tkP(l:List PI)(k:Nat):List PI:=l.take k
theorem aUl(l:List PI):tkP l 0= []:=rfl
theorem aJ3(l:List PI)(k:Nat)(h:k<l.length):tkP l (k+1)=tkP l k++ [l[k]]:=bS l k h
theorem aQk(l:List PI)(k:Nat):(tkP l k).length<=k:=by unfold tkP;rw [bG];omega
theorem aP1(l:List PI):tkP l l.length=l:=eP
def tkA(l:List AT)(k:Nat):List AT:=l.take k
theorem aWl(l:List AT):tkA l 0= []:=rfl
theorem aIa(l:List AT)(k:Nat)(h:k<l.length):tkA l (k+1)=tkA l k++ [l[k]]:=bS l k h
theorem aP7(l:List AT)(k:Nat):(tkA l k).length<=k:=by unfold tkA;rw [bG];omega
theorem aNn(l:List AT):tkA l l.length=l:=eP
def tkV(l:List VN)(k:Nat):List VN:=l.take k
theorem aQ9(l:List VN):tkV l 0= []:=rfl
theorem aKd(l:List VN)(k:Nat)(h:k<l.length):tkV l (k+1)=tkV l k++ [l[k]]:=bS l k h
theorem aPv(l:List VN)(k:Nat):(tkV l k).length<=k:=by unfold tkV;rw [bG];omega
theorem aPl(l:List VN):tkV l l.length=l:=eP
abbrev aUf(v:VN):Prop:=∀σ:List (List D),Ct prog 31 [jQ v] σ (fun r σ'=>r=jQ v/\σ'=σ)
@[simp] abbrev q43_2:Cfg:=⟨[2,3,12,17],[],[],[],[]⟩
theorem aPx(l:List PI)(σ:List (List D))(hl:l.length<=99999):Ct prog 94 [.sl false (l.map cQ)] σ (fun r σ'=>r= .sl true (l.map cQ)/\σ'=σ):=by
 refine zf func94 ?_;refine zr q43_2 fun _ _ Z=>?_;simp(disch:=omega);apply Z;refine zr q43_2 fun _ _ Z=>?_;simp(disch:=omega);apply Z;apply aE;refine zr q43_2 fun _ _ Z=>?_;simp(disch:=omega);and_intros<;>(try omega);apply Z;apply aR;refine zk [2,3,6,7,8] ?_;refine bA (fun(k:Nat)=> [(8,.d (.v (.int .i64 (k:Int)))),(3,.d (.sl true ((tkP l k).map cQ))),(5,.d (.any))]) [3,5,8,9,10,11,12,13,14,15,16] (fun(k:Nat)=>k<=l.length) (fun(k:Nat)=>l.length - k) (0) (by simp <;> rfl) ?_ ?_ ?_
 .simp [aUl]
 .simp
 rintro k hk;simp only [aQ,aP];have htl:=aQk l k;refine zr q43_2 fun _ _ Z=>?_;simp(disch:=omega);apply Z;apply aE;refine zI ?_ ?_<;>intro c1<;>try simp at c1
 .apply kP;refine zr q43_2 fun _ _ Z=>?_;simp(disch:=omega);and_intros<;>(try omega);apply Z;refine zt q43_2 fun _ _ Z=>?_;simp(disch:=omega);and_intros<;>(try omega);apply Z;apply zB;refine zk [2,3,5,6,7,8] ?_;refine zt q43_2 fun _ _ Z=>?_;simp(disch:=omega);and_intros<;>(try omega);apply Z;refine zq (k+1) ?_ ?_ ?_
  .omega
  .try dsimp only
   omega
  simp(disch:=omega)[aJ3]
 obtain rfl:k=l.length:=by omega
 rw [aP1];apply zE;refine zr q43_2 fun _ _ Z=>?_;simp(disch:=omega);apply Z;apply aC;simp [aH]
@[simp] abbrev q43_3:Cfg:=⟨[34,48],[],[3],[],[]⟩
theorem aLw(v:VN)(σ:List (List D))(h:VSz v)(ih:∀k∈v.kids,aUf k):Ct prog 31 [jQ v] σ (fun r σ'=>(r.plain=true/\r.strip=jQ v)/\∃J,σ'=σ++J):=by
 refine zf func31 ?_;obtain⟨h1,h2,h3,h4,h5⟩:=h;refine zr q43_3 fun _ _ Z=>?_;simp(disch:=omega)[aJ,aG];apply Z;refine zd q43_3 [.op {},.op {rL:=true},.op {},.op {rL:=true},.op {},.op {rL:=true},.op {},.op {rL:=true},.op {},.op {},.op {rL:=true},.op {},.op {},.op {rL:=true},.pure,.op {},.op {rL:=true},.op {},.op {rO:=true,wO:=true},.op {rO:=true,wO:=true}] fun all hall _ Z=>?_;refine lN 8 fun _ Y=>?_;simp(disch:=omega)[aJ,aG];apply Y;refine lN 6 fun _ Y=>?_;simp(disch:=omega)[aJ,aG];and_intros<;>(try omega);apply Y;refine cK fun _ Y=>?_;simp(disch:=omega)[aJ,aG];refine zW (fun _=>(aPx v.styles _ (by omega))) ?_;apply Y;simp(disch:=omega)[aJ,aG];and_intros<;>(try omega);apply Z;apply aE;refine zk [1,2,3] ?_;refine zr q43_3 fun _ _ Z=>?_;simp(disch:=omega)[aJ,aG];and_intros<;>(try omega);apply Z;apply aR;refine zk [1,2,3,27,28,29] ?_;refine oL (fun(k:Nat)=> [(29,.d (.v (.int .i64 (k:Int))))]) (fun(k:Nat)=> []) (fun(k:Nat)=> [(σ.length, [D.int v.kind,D.str v.tag,D.str v.key,D.str v.text,.sl false (v.classes.map D.str),.sl true ((tkA v.attrs k).map cY),.sl false (v.styles.map cQ),D.int v.opts.enter,D.int v.opts.leave,D.int v.opts.move,D.int v.opts.mode,D.bool v.opts.appear,D.bool v.opts.moves,.sl true ((tkV v.kids 0).map nT)])]) [5,29,30,31,32,33,34,35,36,37,38,39] (fun(k:Nat)=>k<=v.attrs.length) (fun(k:Nat)=>v.attrs.length - k) (0) (by simp <;> rfl) ?_ (by simp) (by simp [aJ,aWl,aQ9]) ?_ ?_
 .simp
 .simp
 rintro k hk;simp only [aQ,aP,oY,nC,iY,iQ];have htl:=aP7 v.attrs k;refine zr q43_3 fun _ _ Z=>?_;simp(disch:=omega)[aJ,aG];apply Z;apply aE;refine zI ?_ ?_<;>intro c1<;>try simp at c1
 .apply kP;refine zr q43_3 fun _ _ Z=>?_;simp(disch:=omega)[aJ,aG];and_intros<;>(try omega);apply Z;refine zt q43_3 fun _ _ Z=>?_;simp(disch:=omega)[aJ,aG];and_intros<;>(try omega);apply Z;apply zB;refine zk [1,2,3,27,28,29] ?_;refine zt q43_3 fun _ _ Z=>?_;simp(disch:=omega)[aJ,aG];and_intros<;>(try omega);apply Z;refine fU (k+1) ?_ ?_ (eN rfl ?_ (by simp) (by simp [aIa, *]))
  .omega
  .try dsimp only
   omega
  simp(disch:=omega)[aJ,aG]
 obtain rfl:k=v.attrs.length:=by omega
 apply zE;apply aE;refine zr q43_3 fun _ _ Z=>?_;simp(disch:=omega)[aJ,aG];and_intros<;>(try omega);apply Z;apply aR;refine zk [2,3,41,42,43] ?_;refine oL (fun(j:Nat)=> [(43,.d (.v (.int .i64 (j:Int))))]) (fun(j:Nat)=> []) (fun(j:Nat)=> [(σ.length, [D.int v.kind,D.str v.tag,D.str v.key,D.str v.text,.sl false (v.classes.map D.str),.sl true ((tkA v.attrs v.attrs.length).map cY),.sl false (v.styles.map cQ),D.int v.opts.enter,D.int v.opts.leave,D.int v.opts.move,D.int v.opts.mode,D.bool v.opts.appear,D.bool v.opts.moves,.sl true ((tkV v.kids j).map nT)])]) [7,43,44,45,46,47,48,49,50,51,52,53,54] (fun(j:Nat)=>j<=v.kids.length) (fun(j:Nat)=>v.kids.length - j) (0) (by simp <;> rfl) ?_ (by simp) (by simp [aJ,aQ9]) ?_ ?_
 .simp
 .simp
 rintro j hj;simp only [aQ,aP,oY,nC,iY,iQ];have htl2:=aPv v.kids j;refine zr q43_3 fun _ _ Z=>?_;simp(disch:=omega)[aJ,aG];apply Z;apply aE;refine zI ?_ ?_<;>intro c2<;>try simp at c2
 .apply kP;refine zr q43_3 fun _ _ Z=>?_;simp(disch:=omega)[aJ,aG];and_intros<;>(try omega);apply Z;refine ze q43_3 [.op {},.op {rO:=true,wO:=true},.op {rL:=true},.pure,.op {},.op {},.op {},.op {rO:=true,wO:=true}] fun all hall _ Z=>?_;refine lN 3 fun _ Y=>?_;simp(disch:=omega)[aJ,aG];apply Y;refine cK fun _ Y=>?_;simp(disch:=omega)[aJ,aG];refine zW (fun _=>(ih v.kids[j] (bP _) _)) ?_;apply Y;simp(disch:=omega)[aJ,aG];and_intros<;>(try omega);apply Z;apply zB;refine zk [2,3,41,42,43] ?_;refine zt q43_3 fun _ _ Z=>?_;simp(disch:=omega)[aJ,aG];and_intros<;>(try omega);apply Z;refine fU (j+1) ?_ ?_ (eN rfl ?_ (by simp) (by simp [aKd, *]))
  .omega
  .try dsimp only
   omega
  simp(disch:=omega)[aJ,aG]
 obtain rfl:j=v.kids.length:=by omega
 rw [aNn,aPl];apply zE;refine zr q43_3 fun _ _ Z=>?_;simp(disch:=omega)[aJ,aG];apply Z;apply aC;simp [aH]
theorem aA1(v:VN)(h:VG v)(hc:cJ v<=9999):aUf v:=fun σ=>
 have h1:Ct prog 31 [jQ v] σ (fun r σ'=>r=jQ v/\∃J,σ'=σ++J):=(aLw v σ (h.sz hc) fun k hk=>aA1 k (h.k k hk) (by have:=eL hk;omega)).strip fun r σ' h=>⟨h.1.1,h.1.2,h.2⟩
 h1.trim fun r σ' ⟨hr,J,hs⟩=>⟨σ,J,hs,rfl,by rw [hr];exact aA8 _ _,fun n cs h=> .inl h,hr,rfl⟩
termination_by cJ v
decreasing_by
 have:=eL hk;omega
end Go.Proofs.YtbgfljpnhhdkoaaGreat
