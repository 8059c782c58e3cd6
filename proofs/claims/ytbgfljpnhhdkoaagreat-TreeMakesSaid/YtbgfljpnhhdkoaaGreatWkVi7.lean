import Derived.Test.YtbgfljpnhhdkoaaGreatWkDr11
set_option linter.all false
set_option maxRecDepth 20000
set_option maxHeartbeats 8000000
open Go.Proofs.Tryz
namespace Go.Proofs.YtbgfljpnhhdkoaaGreat
open Go Go.Vm
variable {j:Nat}{l:List VN}{v:VN}
def tF(v:VN)(j:Nat):List VN:=((v.kids.take j).filter jH).map cZ
theorem aO8(v:VN):tF v 0= []:=rfl
theorem Oa(v:VN)(j:Nat):(tF v j).length<=j:=by
 unfold tF;rw [bQ];have:=jD jH (v.kids.take j);simp only [bG] at this;omega
theorem aA4 (h:j<v.kids.length)(hk:jH v.kids[j]=false):tF v (j+1)=tF v j:=by
 unfold tF;rw [bL _ _ h,fX,sH (by simp [hk]),lP,gH]
theorem Lh (h:j<v.kids.length)(hk:jH v.kids[j]=true):tF v (j+1)=tF v j++ [cZ v.kids[j]]:=by
 unfold tF;rw [bL _ _ h,fX,qC hk,lP,cE];rfl
theorem aGm(v:VN):gW (tF v v.kids.length)=(cZ v).kids:=by
 rw [lC];unfold tF;rw [dY,List.filter_map];congr 2;exact gZ fun x _=>(aFq x).symm
theorem Qe(l:List VN):(gW l).length<=l.length:=by
 have:∀(l o:List VN),(l.foldl oB o).length<=o.length+l.length:=by
  intro l;induction l with
  | nil=>intro o;simp
  | cons a l ih=>
   intro o;have h1:=ih (oB o a);have h2:=Nm o a;simp only [dO,bJ];omega
 have:=this l [];simpa [gW] using this
theorem aF0 {o q:List VN} {k:VN} (hq:oB o k=q):∃h:0<q.length,q[q.length - 1].kind=k.kind:=by
 by_cases h:0<o.length
 .by_cases h1:o[o.length - 1].kind=1/\k.kind=1
  .rw [Bh h h1.1 h1.2] at hq;subst hq;refine⟨by simpa using h,?_⟩;simp [txt,h1.1,h1.2]
  rw [oV fun _=>h1] at hq;subst hq;exact⟨by simp,by simp⟩
 rw [oV fun h'=>absurd h' h] at hq;subst hq;exact⟨by simp,by simp⟩
theorem qH {i:Nat} (h:i<l.length):gW (l.take (i+1))=oB (gW (l.take i)) l[i]:=by
 rw [bL l i h,xD]
theorem Mi {o:List VN} {i:Nat} (ho:gW (l.take i)=o)(hi:0<i)(h:i<=l.length):∃h':0<o.length,o[o.length - 1].kind=(l[i - 1]'(by omega)).kind:=by
 obtain⟨n,rfl⟩:∃n,i=n+1:=⟨i - 1,by omega⟩;rw [qH (by omega)] at ho;exact aF0 ho
theorem Hp {B:Nat} (h:∀k∈l,k.text.size<=B):∀j,j<=l.length->∀k∈gW (l.take j),k.text.size<=j * B
 | 0,_=>fun k hk=>by simp [gW] at hk
 | j+1,hj=>fun k hk=>by
  have eB:(j+1) * B=j * B+B:=vJ j B;rw [qH (by omega)] at hk;rw [eB];exact Po (Hp h j (by omega)) (h _ (bS _)) k hk
abbrev aSz(v:VN):Prop:=∀σ:List (List D),Ct prog 34 [iX v] σ (fun r σ'=>r=iX (cZ v)/\σ'=σ)
@[simp] abbrev q45_1:Cfg:=⟨[3,6,37,79],[],[],[69,71,77,82],[]⟩
theorem aGa(v:VN)(σ:List (List D))(h:VSz v)(ih:∀k∈v.kids,aSz k):Ct prog 34 [iX v] σ (fun r σ'=>(r.plain=true/\r.strip=iX (cZ v))/\∃J,σ'=σ++J):=by
 refine zf func34 ?_;obtain⟨h1,h2,h3,h4,h5⟩:=h;refine zr q45_1 fun _ _ Z=>?_;simp(disch:=omega)[iV,bD];apply Z;refine zr q45_1 fun _ _ Z=>?_;refine zs 2 fun _ Y=>?_;simp(disch:=omega)[iV,bD];apply Y;refine aF fun _ Y=>?_;simp(disch:=omega)[iV,bD];refine cT (aGb v.classes _ (by omega)) ?_;apply Y;simp(disch:=omega)[iV,bD];apply Z;refine zr q45_1 fun _ _ Z=>?_;refine zs 2 fun _ Y=>?_;simp(disch:=omega)[iV,bD];apply Y;refine aF fun _ Y=>?_;simp(disch:=omega)[iV,bD];refine cT (aEu v.attrs _ (by omega)) ?_;apply Y;simp(disch:=omega)[iV,bD];apply Z;refine zr q45_1 fun _ _ Z=>?_;refine zs 2 fun _ Y=>?_;simp(disch:=omega)[iV,bD];apply Y;refine aF fun _ Y=>?_;simp(disch:=omega)[iV,bD];refine cT (Ry v.styles _ (by omega)) ?_;apply Y;simp(disch:=omega)[iV,bD];apply Z;refine zk [1,2] ?_;refine zr q45_1 fun _ _ Z=>?_;simp(disch:=omega)[iV,bD];and_intros<;>(try omega);apply Z;apply aE;refine zr q45_1 fun _ _ Z=>?_;simp(disch:=omega)[iV,bD];and_intros<;>(try omega);apply Z;apply aR;refine zk [1,2,3,23,24,25] ?_;refine aY (fun(j:Nat)=> [(25,.d (.v (.int .i64 (j:Int)))),(3,.d (.sl true ((tF v j).map oG)))]) [3,5,25,26,27,28,29,30,31,32,33,34,35,36,37,38,39,40,41,42] (fun(j:Nat)=>j<=v.kids.length) (fun(j:Nat)=>v.kids.length - j) (0) (by simp <;> rfl) ?_ ?_ ?_
 .simp [aO8]
 .simp
 rintro j hj;simp only [aQ,aO];have hnl:=Oa v j;refine zr q45_1 fun _ _ Z=>?_;simp(disch:=omega)[iV,bD];apply Z;apply aE;refine zI ?_ ?_<;>intro c1<;>try simp at c1
 .apply jM;refine zr q45_1 fun _ _ Z=>?_;simp(disch:=omega)[iV,bD];and_intros<;>(try omega);apply Z;refine mH q45_1 fun all hall _ Z=>?_;have ga3:aN all 3=some 32:=hall 3;refine zs 4 fun _ Y=>?_;simp(disch:=omega)[iV,bD,ga3];apply Y;refine zb 32 ?_ ?_<;>intro g2<;>try simp at g2
  .have hnx:=Lh (v:=v) c1 (by simp [jH,g2]);simp(disch:=omega)[iV,bD,ga3];apply Z;refine bA (t:=true) (by simp) (fun _=>?_) (fun h=>by cases h);refine zk [1,2,3,5,23,24,25] ?_;refine zt q45_1 fun _ _ Z=>?_;refine zs 2 fun _ Y=>?_;simp(disch:=omega)[iV,bD];apply Y;refine aF fun _ Y=>?_;simp(disch:=omega)[iV,bD];refine cT (ih v.kids[j] (bS _) _) ?_;apply Y;simp(disch:=omega)[iV,bD];and_intros<;>(try omega);apply Z;apply zB;refine zk [1,2,3,23,24,25] ?_;refine zt q45_1 fun _ _ Z=>?_;simp(disch:=omega)[iV,bD];and_intros<;>(try omega);apply Z;refine zq (j+1) ?_ ?_ ?_
   .omega
   .try dsimp only
    omega
   simp(disch:=omega)[iV,bD,hnx]
  simp(disch:=omega)[iV,bD,ga3];apply Z;refine zI ?_ ?_<;>intro c3<;>try simp at c3
  .have hnx:=Lh (v:=v) c1 (by simp [jH,c3]);refine zk [1,2,3,5,23,24,25] ?_;refine zt q45_1 fun _ _ Z=>?_;refine zs 2 fun _ Y=>?_;simp(disch:=omega)[iV,bD];apply Y;refine aF fun _ Y=>?_;simp(disch:=omega)[iV,bD];refine cT (ih v.kids[j] (bS _) _) ?_;apply Y;simp(disch:=omega)[iV,bD];and_intros<;>(try omega);apply Z;apply zB;refine zk [1,2,3,23,24,25] ?_;refine zt q45_1 fun _ _ Z=>?_;simp(disch:=omega)[iV,bD];and_intros<;>(try omega);apply Z;refine zq (j+1) ?_ ?_ ?_
   .omega
   .try dsimp only
    omega
   simp(disch:=omega)[iV,bD,hnx]
  have hnx:=aA4 (v:=v) c1 (by simp [jH,g2,c3]);apply mS;refine zk [1,2,3,23,24,25] ?_;refine zt q45_1 fun _ _ Z=>?_;simp(disch:=omega)[iV,bD];and_intros<;>(try omega);apply Z;refine zq (j+1) ?_ ?_ ?_
  .omega
  .try dsimp only
   omega
  simp(disch:=omega)[iV,bD,hnx]
 obtain rfl:j=v.kids.length:=by omega
 have hl1:=Oa v v.kids.length;have htx:∀k∈tF v v.kids.length,k.text.size<=9999:=fun k hk=>by
  unfold tF at hk;obtain⟨a,ha,rfl⟩:=aV.1 hk;rw [tM];exact h5 a (mD (cS.1 ha).1)
 have hal:=aGm v;obtain⟨l,hl⟩:∃l,tF v v.kids.length=l:=⟨_,rfl⟩;rw [hl] at hl1 htx hal |-;apply zE;refine zr q45_1 fun _ _ Z=>?_;simp(disch:=omega)[iV,bD];and_intros<;>(try omega);apply Z;apply aE;refine zr q45_1 fun _ _ Z=>?_;simp(disch:=omega)[iV,bD];and_intros<;>(try omega);apply Z;apply aR;refine zk [1,2,3,6,44,45,46] ?_;refine Ch 6 14 (by simp <;> rfl) ?_;refine nW (fun(i:Nat)=> [(46,.d (.v (.int .i64 (i:Int)))),(6,.d (.xs 14 ((gW (l.take i)).map oG))),(7,.d (.any))]) (fun(i:Nat)=> [[D.int v.kind,D.str v.tag,D.str v.key,D.str v.text,.sl true ((bU v.classes).map D.str),.sl true ((iC nA v.attrs).map dA),.sl true ((iC nP v.styles).map cQ),D.int v.opts.enter,D.int v.opts.leave,D.int v.opts.move,D.int v.opts.mode,D.bool v.opts.appear,D.bool v.opts.moves,.sl false (v.kids.map oG)], [D.int 0,D.str ⟨#[]⟩,D.str ⟨#[]⟩,D.str ⟨#[]⟩,.sl true [],.sl true [],.sl true [],D.int 0,D.int 0,D.int 0,D.int 0,D.bool false,D.bool false,.sl true []]]) (fun(i:Nat)=>σ++List.replicate i []) [6,7,8,46,47,48,49,50,51,52,53,54,55,56,57,58,59,60,61,62,63,64,65,66,67,68,69,70,71,72,73,74,75,76,77,78,79,80,81,82,83] (fun(i:Nat)=>i<=l.length) (fun(i:Nat)=>l.length - i) (0) (by simp <;> rfl) ?_ (by simp) (by simp) ?_ ?_
 .simp [gW]
 .simp
 rintro i hi;simp only [aQ,aO];have hnl:=Qe (l.take i);rw [bG] at hnl;obtain⟨ks,hks⟩:∃ks,gW (l.take i)=ks:=⟨_,rfl⟩;rw [hks] at hnl |-;refine iL 6 14 (by simp <;> rfl) (by decide) fun cap rest hcap hcm hrest hk0 hes=>?_;simp only [bQ] at hcap hrest |-;rw [qT];have hrl:rest.length=(cap - ks.length) * 14:=by rw [hrest,cR]
 clear hrest;have hdl:ks.length * 14+rest.length=cap * 14:=by omega
 have hdl2:(ks.flatMap cV++rest).length=cap * 14:=by rw [aZ,Pd];exact hdl
 simp only [aZ,cR,bW];refine zr q45_1 fun _ _ Z=>?_;simp(disch:=omega)[iV,bD];apply Z;apply aE;refine zI ?_ ?_<;>intro c4<;>try simp at c4
 .apply jM;refine zr q45_1 fun _ _ Z=>?_;simp(disch:=omega)[iV,bD];and_intros<;>(try omega);apply Z;refine zk [1,2,3,6,7,8,44,45,46] ?_;refine mH q45_1 fun all hall _ Z=>?_;have ga2:aN all 2=some 53:=hall 2;have ga7:aN all 7=some 58:=hall 7;refine zs 3 fun _ Y=>?_;simp(disch:=omega)[iV,bD,ga2,ga7];apply Y;refine zb 53 ?_ ?_<;>intro g5<;>try simp at g5
  .refine zs 5 fun _ Y=>?_;simp(disch:=omega)[iV,bD,ga2,ga7];apply Y;refine zb 58 ?_ ?_<;>intro g6<;>try simp at g6
   .simp(disch:=omega)[iV,bD,ga2,ga7];and_intros<;>(try omega);apply Z;refine zI ?_ ?_<;>intro c7<;>try simp at c7
    .obtain⟨hk1,hkl⟩:=Mi hks g5 hi;rw [c7] at hkl;obtain⟨hr0,hr3⟩:=aXi ks rest hk1;have hnx:gW (l.take (i+1))=ks.set (ks.length - 1) (txt ks[ks.length - 1] (ks[ks.length - 1].text++l[i].text)):=by rw [qH c4,hks,Bh hk1 hkl g6]
     have hsz:ks[ks.length - 1].text.size+l[i].text.size<=9223372036854775807:=by
      have ha:=Hp htx i hi;rw [hks] at ha;have hj9:i * 9999<=9999 * 9999:=fO _ (by omega);have ha:=ha _ (bS (by omega:ks.length - 1<ks.length));have hb:=htx l[i] (bS _);omega
     have hwr:=aW3 ks rest hk1 (ks[ks.length - 1].text++l[i].text);refine zk [1,2,3,6,7,8,44,45,46] ?_;refine ze q45_1 [.op {},.op {},.op {},.op {},.op {},.op {},.op {rO:=true},.op {},.op {rL:=true},.op {},.op {},.op {},.op {rO:=true,wO:=true}] fun all hall _ Z=>?_;refine kF 8 fun _ Y=>?_;simp(disch:=omega)[iV,bD,hr3,hwr];and_intros<;>(try omega);apply Y;simp(disch:=omega)[iV,bD,hr3,hwr];and_intros<;>(try omega);apply Z;apply zB;refine fI 6 14 (σ.length+i) ks.length cap ((ks.set (ks.length - 1) (txt ks[ks.length - 1] (ks[ks.length - 1].text++l[i].text))).map oG) ((ks.set (ks.length - 1) (txt ks[ks.length - 1] (ks[ks.length - 1].text++l[i].text))).flatMap cV++rest) (by simp <;> rfl) (by simp [iV]) (by decide) (by simp only [aZ,Pd,cK];omega) (by simp) (xR _) (by rw [qT];exact dC _ _) ?_;refine zk [1,2,3,6,7,44,45,46] ?_;refine zt q45_1 fun _ _ Z=>?_;simp(disch:=omega)[iV,bD,hr3,hwr];and_intros<;>(try omega);apply Z;refine fB (i+1) ?_ ?_ (dW rfl ?_ (by simp) (by simp [pR]))
     .omega
     .try dsimp only
      omega
     simp(disch:=omega)[iV,bD,hnx,hr3,hwr]
    obtain⟨hk1,hkl⟩:=Mi hks g5 hi;have hnx:gW (l.take (i+1))=ks++ [l[i]]:=by rw [qH c4,hks,oV fun _ h=>c7 (by rw [<- hkl];exact h.1)]
    refine zk [1,2,3,6,7,8,44,45,46] ?_;refine zt q45_1 fun _ _ Z=>?_;refine zs 4 fun _ Y=>?_;simp(disch:=omega)[iV,bD];refine⟨by first | rfl | exact⟨rfl,rfl⟩ | trivial,_,ks.map oG,⟨rfl,hdl2,by simp,xR ks,by rw [qT];exact dC _ _,by simp;omega,by simp [maxLen];omega⟩,?_⟩;and_intros<;>(try omega);apply Y;simp(disch:=omega)[iV,bD];apply Z;apply zB;refine zk [1,2,3,6,7,44,45,46] ?_;refine zt q45_1 fun _ _ Z=>?_;simp(disch:=omega)[iV,bD];and_intros<;>(try omega);apply Z;refine fB (i+1) ?_ ?_ (dW rfl ?_ (by simp) (by simp [pR]))
    .omega
    .try dsimp only
     omega
    simp(disch:=omega)[iV,bD,hnx]
   have hnx:gW (l.take (i+1))=ks++ [l[i]]:=by rw [qH c4,hks,oV fun _ h=>g6 h.2]
   simp(disch:=omega)[iV,bD,ga2,ga7];apply Z;refine bA (t:=false) (by simp) (fun h=>by cases h) (fun _=>?_);refine zk [1,2,3,6,7,8,44,45,46] ?_;refine zt q45_1 fun _ _ Z=>?_;refine zs 4 fun _ Y=>?_;simp(disch:=omega)[iV,bD];refine⟨by first | rfl | exact⟨rfl,rfl⟩ | trivial,_,ks.map oG,⟨rfl,hdl2,by simp,xR ks,by rw [qT];exact dC _ _,by simp;omega,by simp [maxLen];omega⟩,?_⟩;and_intros<;>(try omega);apply Y;simp(disch:=omega)[iV,bD];apply Z;apply zB;refine zk [1,2,3,6,7,44,45,46] ?_;refine zt q45_1 fun _ _ Z=>?_;simp(disch:=omega)[iV,bD];and_intros<;>(try omega);apply Z;refine fB (i+1) ?_ ?_ (dW rfl ?_ (by simp) (by simp [pR]))
   .omega
   .try dsimp only
    omega
   simp(disch:=omega)[iV,bD,hnx]
  obtain rfl:i=0:=by omega
  have hnx:gW (l.take (0+1))=ks++ [l[0]]:=by rw [qH c4,hks,oV fun h _=>absurd h (by omega)]
  refine zs 5 fun _ Y=>?_;simp(disch:=omega)[iV,bD,ga2,ga7];apply Y;simp(disch:=omega)[iV,bD,ga2,ga7];apply Z;refine bA (t:=false) (by simp) (fun h=>by cases h) (fun _=>?_);refine zk [1,2,3,6,7,8,44,45,46] ?_;refine zt q45_1 fun _ _ Z=>?_;refine zs 4 fun _ Y=>?_;simp(disch:=omega)[iV,bD];refine⟨by first | rfl | exact⟨rfl,rfl⟩ | trivial,_,ks.map oG,⟨rfl,hdl2,by simp,xR ks,by rw [qT];exact dC _ _,by simp;omega,by simp [maxLen];omega⟩,?_⟩;and_intros<;>(try omega);apply Y;simp(disch:=omega)[iV,bD];apply Z;apply zB;refine zk [1,2,3,6,7,44,45,46] ?_;refine zt q45_1 fun _ _ Z=>?_;simp(disch:=omega)[iV,bD];and_intros<;>(try omega);apply Z;refine fB (0+1) ?_ ?_ (dW rfl ?_ (by simp) (by simp [pR]))
  .omega
  .try dsimp only
   omega
  simp(disch:=omega)[iV,bD,hnx]
 obtain rfl:i=l.length:=by omega
 apply zE;refine zr q45_1 fun _ _ Z=>?_;simp(disch:=omega)[iV,bD];apply Z;refine Hx 0 13 (σ.length+l.length) ks.length cap 14 _ _ (ks.map oG) rfl rfl (by simp [iV]) (by decide) hdl2 (by simp) (xR _) (by rw [qT];exact dC _ _) ?_;simp only [fY,gD];refine zr q45_1 fun _ _ Z=>?_;simp(disch:=omega)[iV,bD];apply Z;apply aC;rw [dY,hal] at hks;simp [aH];rw [<- hks,lC];simp
theorem Dz(v:VN)(h:VG v)(hc:cB v<=9999):aSz v:=fun σ=>
 have h1:Ct prog 34 [iX v] σ (fun r σ'=>r=iX (cZ v)/\∃J,σ'=σ++J):=(aGa v σ (h.sz hc) fun k hk=>Dz k (h.k k hk) (by have:=dQ hk;omega)).strip fun r σ' h=>⟨h.1.1,h.1.2,h.2⟩
 h1.trim fun r σ' ⟨hr,J,hs⟩=>⟨σ,J,hs,rfl,by rw [hr];exact aC4 _ _,fun n cs h=> .inl h,hr,rfl⟩
termination_by cB v
decreasing_by
 have:=dQ hk;omega
theorem aBj(x:Int): -2147483648<=Av x/\Av x<=2147483647:=by unfold Av;omega
theorem Th {x:Int} (h: -2147483648<=x/\x<=2147483647):Av x=x:=by unfold Av;omega
def Zl(a b:Int):Int:=Av (Av a+Av b)
def Fy(l:List Int):Int:=l.foldl Zl 0
theorem aFs(l:List Int)(k:Nat)(h:k<l.length):Fy (l.take (k+1))=Zl (Fy (l.take k)) l[k]:=by
 unfold Fy;rw [bL l k h,jR];rfl
theorem aK1:∀(l:List Nat),l.sum<=1000000->Fy (l.map fun n:Nat=>(n:Int))=(l.sum:Nat):=by
 have:∀(l:List Nat) (a:Nat),a+l.sum<=1000000->(l.map fun n:Nat=>(n:Int)).foldl Zl (a:Int)=((a+l.sum:Nat):Int):=by
  intro l;induction l with
  | nil=>intro a h;simp
  | cons b l ih =>
   intro a h;simp only [iA] at h;simp only [cC,dO,iA];have e:Zl (a:Int) (b:Int)=((a+b:Nat):Int):=by
    unfold Zl;rw [Th (x:=(a:Int)) (by omega),Th (x:=(b:Int)) (by omega),Th (by omega)];omega
   rw [e,ih (a+b) (by omega)];congr 1;omega
 intro l h;have:=this l 0 (by omega);simpa [Fy] using this
def szK(v:VN)(j:Nat):List Int:=((v.kids.take j).map cB).map fun n:Nat=>(n:Int)
theorem aXy(v:VN):szK v 0= []:=rfl
theorem aOs(v:VN)(j:Nat):(szK v j).length<=j:=by unfold szK;simp;omega
theorem aLe (h:j<v.kids.length):szK v (j+1)=szK v j++ [(cB v.kids[j]:Int)]:=by
 unfold szK;rw [bL _ _ h,cE,cE];rfl
theorem aCn (h:cB v<=9999):1+Fy (szK v v.kids.length)=(cB v:Int):=by
 have e:=jC v;unfold szK;rw [dY,aK1 _ (by omega)];omega
def vY(v:VN)(k:Nat):Nat:=((v.kids.take k).map cB).sum
theorem aVf(v:VN):vY v 0=0:=rfl
theorem yN(v:VN)(k:Nat)(h:k<v.kids.length):vY v (k+1)=vY v k+cB v.kids[k]:=by
 unfold vY;rw [bL _ _ h,cE,Hm];simp
theorem Uz(v:VN):vY v v.kids.length+1=cB v:=by unfold vY;rw [dY,jC];omega
theorem Jh(v:VN)(k:Nat):vY v k+1<=cB v:=by
 rw [jC];unfold vY;have:((v.kids.take k).map cB).sum+((v.kids.drop k).map cB).sum=(v.kids.map cB).sum:=by rw [<- Hm,<- cE,eZ]
 omega
abbrev aSu(v:VN):Prop:=∀σ:List (List D),Ct prog 174 [iX v,.clo (.func 175) [] []] σ (fun r σ'=>r=D.int (cB v)/\σ'=σ)
abbrev aR9(v:VN):Prop:=∀σ:List (List D),Ct prog 48 [iX v] σ (fun r σ'=>r=D.int (cB v)/\σ'=σ)
theorem aQ6(a b:Int)(σ:List (List D))  :Ct prog 220 [D.int a,D.int b] σ (fun r σ'=>r= .int (Zl a b)/\σ'=σ):=by
 refine zf func220 ?_;have hA:=aBj a;have hB:=aBj b;refine bB fun _ _ Z=>?_;simp;apply Z;refine bB fun _ _ Z=>?_;refine zs 1 fun _ Y=>?_;simp;apply Y;refine aF fun _ Y=>?_;simp;refine cT (Sk a _) ?_;apply Y;refine zs 1 fun _ Y=>?_;simp;apply Y;refine aF fun _ Y=>?_;simp;refine cT (Sk b _) ?_;apply Y;refine zs 1 fun _ Y=>?_;simp;and_intros<;>(try omega);apply Y;refine aF fun _ Y=>?_;simp;refine cT (Sk (Av a+Av b) _) ?_;apply Y;simp;apply Z;apply aC;simp [aH,Zl]
theorem aT7(l:List Int)(σ:List (List D))(hl:l.length<=99999):Ct prog 176 [.sl false (l.map D.int)] σ (fun r σ'=>r= .int (Fy l)/\σ'=σ):=by
 refine zf func176 ?_;refine bB fun _ _ Z=>?_;simp(disch:=omega);apply Z;refine bB fun _ _ Z=>?_;simp(disch:=omega);apply Z;apply aE;refine bB fun _ _ Z=>?_;simp(disch:=omega);and_intros<;>(try omega);apply Z;apply aR;refine zk [2,3,6,7,8] ?_;refine aY (fun(k:Nat)=> [(8,.d (.v (.int .i64 (k:Int)))),(3,.d (.int (Fy (l.take k)))),(5,.d (.any))]) [3,5,8,9,10,11,12,13,14,15] (fun(k:Nat)=>k<=l.length) (fun(k:Nat)=>l.length - k) (0) (by simp <;> rfl) ?_ ?_ ?_
 .simp [Fy]
 .simp
 rintro k hk;simp only [aQ,aO];refine bB fun _ _ Z=>?_;simp(disch:=omega);apply Z;apply aE;refine zI ?_ ?_<;>intro c1<;>try simp at c1
 .apply jM;refine bB fun _ _ Z=>?_;simp(disch:=omega);and_intros<;>(try omega);apply Z;refine pF fun _ _ Z=>?_;refine zs 2 fun _ Y=>?_;simp(disch:=omega);apply Y;refine aF fun _ Y=>?_;simp(disch:=omega);refine cT (aQ6 (Fy (l.take k)) l[k] _) ?_;apply Y;simp(disch:=omega);apply Z;apply zB;refine zk [2,3,5,6,7,8] ?_;refine pF fun _ _ Z=>?_;simp(disch:=omega);and_intros<;>(try omega);apply Z;refine zq (k+1) ?_ ?_ ?_
  .omega
  .try dsimp only
   omega
  simp(disch:=omega)[aFs]
 obtain rfl:k=l.length:=by omega
 rw [dY];apply zE;refine bB fun _ _ Z=>?_;simp(disch:=omega);apply Z;apply aC;simp [aH]
theorem aMq(v:VN)(l:List Int)(σ:List (List D))(hl:l.length<=99999)(hs: -9<=Fy l/\Fy l<=99999999):Ct prog 175 [iX v,.sl false (l.map D.int)] σ (fun r σ'=>r= .int (1+Fy l)/\σ'=σ):=by
 refine zf func175 ?_;refine bB fun _ _ Z=>?_;simp;apply Z;refine bB fun _ _ Z=>?_;refine zs 1 fun _ Y=>?_;simp;apply Y;refine aF fun _ Y=>?_;simp;refine cT (aT7 l _ hl) ?_;apply Y;simp;and_intros<;>(try omega);apply Z;apply aC;simp [aH]
theorem aM4(v:VN)(σ:List (List D))(hc:cB v<=9999)(ih:∀k∈v.kids,aSu k):Ct prog 174 [iX v,.clo (.func 175) [] []] σ (fun r σ'=>r= .int (cB v)/\σ'=σ):=by
 refine zf func174 ?_;have hkl:=jV v;refine zr ⟨[5,15],[],[],[],[]⟩ fun _ _ Z=>?_;simp(disch:=omega);apply Z;refine zr ⟨[5,15],[],[],[],[]⟩ fun _ _ Z=>?_;simp(disch:=omega);apply Z;apply aE;refine zr ⟨[5,15],[],[],[],[]⟩ fun _ _ Z=>?_;simp(disch:=omega);and_intros<;>(try omega);apply Z;apply aR;refine zk [1,2,4,5,9,10,11] ?_;refine aY (fun(j:Nat)=> [(11,.d (.v (.int .i64 (j:Int)))),(5,.d (.sl true ((szK v j).map D.int))),(7,.d (.any))]) [5,7,11,12,13,14,15,16,17,18,19,20,21] (fun(j:Nat)=>j<=v.kids.length) (fun(j:Nat)=>v.kids.length - j) (0) (by simp <;> rfl) ?_ ?_ ?_
 .simp [aXy]
 .simp
 rintro j hj;simp only [aQ,aO];have hzl:=aOs v j;refine zr ⟨[5,15],[],[],[],[]⟩ fun _ _ Z=>?_;simp(disch:=omega);apply Z;apply aE;refine zI ?_ ?_<;>intro c1<;>try simp at c1
 .have hnx:=aLe c1;apply jM;refine zr ⟨[5,15],[],[],[],[]⟩ fun _ _ Z=>?_;simp(disch:=omega);and_intros<;>(try omega);apply Z;refine zk [1,2,4,5,7,9,10,11] ?_;refine zt ⟨[5,15],[],[],[],[]⟩ fun _ _ Z=>?_;refine zs 3 fun _ Y=>?_;simp(disch:=omega);apply Y;refine aF fun _ Y=>?_;simp(disch:=omega);refine cT (ih v.kids[j] (bS _) _) ?_;apply Y;simp(disch:=omega);and_intros<;>(try omega);apply Z;apply zB;refine zk [1,2,4,5,7,9,10,11] ?_;refine zt ⟨[5,15],[],[],[],[]⟩ fun _ _ Z=>?_;simp(disch:=omega);and_intros<;>(try omega);apply Z;refine zq (j+1) ?_ ?_ ?_
  .omega
  .try dsimp only
   omega
  simp(disch:=omega)[hnx]
 obtain rfl:j=v.kids.length:=by omega
 have hall:=aCn hc;apply zE;refine zr ⟨[5,15],[],[],[],[]⟩ fun _ _ Z=>?_;refine zs 3 fun _ Y=>?_;simp(disch:=omega);apply Y;refine aF fun _ Y=>?_;simp(disch:=omega);refine cT (aMq v (szK v v.kids.length) _ (by omega) (by have:=aCn hc;omega)) ?_;apply Y;simp(disch:=omega);apply Z;apply aC;simp [aH,hall]
theorem aDu(v:VN)(σ:List (List D))(hc:cB v<=9999)(ih:∀k∈v.kids,aR9 k):Ct prog 48 [iX v] σ (fun r σ'=>r= .int (cB v)/\σ'=σ):=by
 refine zf func48 ?_;have hkl:=jV v;refine bB fun _ _ Z=>?_;simp(disch:=omega);apply Z;refine bB fun _ _ Z=>?_;simp(disch:=omega);apply Z;apply aE;refine bB fun _ _ Z=>?_;simp(disch:=omega);and_intros<;>(try omega);apply Z;apply aR;refine zk [2,3,7,8,9] ?_;refine aY (fun(j:Nat)=> [(9,.d (.v (.int .i64 (j:Int)))),(3,.d (.v (.int .i64 ((1+vY v j):Int))))]) [3,5,9,10,11,12,13,14,15,16,17] (fun(j:Nat)=>j<=v.kids.length) (fun(j:Nat)=>v.kids.length - j) (0) (by simp <;> rfl) ?_ ?_ ?_
 .simp [aVf]
 .simp
 rintro j hj;simp only [aQ,aO];have hzl:=Jh v j;refine bB fun _ _ Z=>?_;simp(disch:=omega);apply Z;apply aE;refine zI ?_ ?_<;>intro c1<;>try simp at c1
 .have hzk:=Jh v (j+1);rw [yN v j c1] at hzk;have hnx:vY v (j+1)=vY v j+cB v.kids[j]:=yN v j c1;apply jM;refine bB fun _ _ Z=>?_;simp(disch:=omega);and_intros<;>(try omega);apply Z;refine pF fun _ _ Z=>?_;refine zs 2 fun _ Y=>?_;simp(disch:=omega);apply Y;refine aF fun _ Y=>?_;simp(disch:=omega);refine cT (ih v.kids[j] (bS _) _) ?_;apply Y;simp(disch:=omega);and_intros<;>(try omega);apply Z;apply zB;refine zk [2,3,7,8,9] ?_;refine pF fun _ _ Z=>?_;simp(disch:=omega);and_intros<;>(try omega);apply Z;refine zq (j+1) ?_ ?_ ?_
  .omega
  .try dsimp only
   omega
  simp(disch:=omega)[hnx,Int.natCast_add,Int.add_assoc]
 obtain rfl:j=v.kids.length:=by omega
 have hall:=Uz v;apply zE;refine bB fun _ _ Z=>?_;simp(disch:=omega);apply Z;apply aC;simp [aH];omega
theorem aCr(v:VN)(hc:cB v<=9999):aSu v:=fun σ=>aM4 v σ hc fun k hk=>aCr k (by have:=dQ hk;omega)
termination_by cB v
decreasing_by
 have:=dQ hk;omega
theorem Cd(v:VN)(hc:cB v<=9999):aR9 v:=fun σ=>aDu v σ hc fun k hk=>Cd k (by have:=dQ hk;omega)
termination_by cB v
decreasing_by
 have:=dQ hk;omega
theorem aCa(v:VN)(σ:List (List D))(hc:cB v<=9999):Ct prog 92 [iX v] σ (fun r σ'=>r= .int (cB v)/\σ'=σ):=by
 refine zf func92 ?_;refine bB fun _ _ Z=>?_;simp;apply Z;refine bB fun _ _ Z=>?_;refine zs 1 fun _ Y=>?_;simp;apply Y;refine aF fun _ Y=>?_;simp;refine cT (aCr v hc _) ?_;apply Y;simp;apply Z;apply aC;simp [aH]
def tkP(l:List PI)(k:Nat):List PI:=l.take k
theorem aMv(l:List PI):tkP l 0= []:=rfl
theorem Vd(l:List PI)(k:Nat)(h:k<l.length):tkP l (k+1)=tkP l k++ [l[k]]:=bL l k h
theorem aCe(l:List PI)(k:Nat):(tkP l k).length<=k:=by unfold tkP;rw [bG];omega
theorem aDe(l:List PI):tkP l l.length=l:=dY
def tkA(l:List AT)(k:Nat):List AT:=l.take k
theorem aSv(l:List AT):tkA l 0= []:=rfl
theorem Wq(l:List AT)(k:Nat)(h:k<l.length):tkA l (k+1)=tkA l k++ [l[k]]:=bL l k h
theorem aC2(l:List AT)(k:Nat):(tkA l k).length<=k:=by unfold tkA;rw [bG];omega
theorem aBq(l:List AT):tkA l l.length=l:=dY
def tkV(l:List VN)(k:Nat):List VN:=l.take k
theorem aS1(l:List VN):tkV l 0= []:=rfl
theorem aHp(l:List VN)(k:Nat)(h:k<l.length):tkV l (k+1)=tkV l k++ [l[k]]:=bL l k h
theorem aPd(l:List VN)(k:Nat):(tkV l k).length<=k:=by unfold tkV;rw [bG];omega
theorem aPn(l:List VN):tkV l l.length=l:=dY
abbrev aX1(v:VN):Prop:=∀σ:List (List D),Ct prog 31 [iX v] σ (fun r σ'=>r=iX v/\σ'=σ)
@[simp] abbrev q45_2:Cfg:=⟨[2,3,12,17],[],[],[],[]⟩
theorem aQm(l:List PI)(σ:List (List D))(hl:l.length<=99999):Ct prog 94 [.sl false (l.map cQ)] σ (fun r σ'=>r= .sl true (l.map cQ)/\σ'=σ):=by
 refine zf func94 ?_;refine zr q45_2 fun _ _ Z=>?_;simp(disch:=omega);apply Z;refine zr q45_2 fun _ _ Z=>?_;simp(disch:=omega);apply Z;apply aE;refine zr q45_2 fun _ _ Z=>?_;simp(disch:=omega);and_intros<;>(try omega);apply Z;apply aR;refine zk [2,3,6,7,8] ?_;refine aY (fun(k:Nat)=> [(8,.d (.v (.int .i64 (k:Int)))),(3,.d (.sl true ((tkP l k).map cQ))),(5,.d (.any))]) [3,5,8,9,10,11,12,13,14,15,16] (fun(k:Nat)=>k<=l.length) (fun(k:Nat)=>l.length - k) (0) (by simp <;> rfl) ?_ ?_ ?_
 .simp [aMv]
 .simp
 rintro k hk;simp only [aQ,aO];have htl:=aCe l k;refine zr q45_2 fun _ _ Z=>?_;simp(disch:=omega);apply Z;apply aE;refine zI ?_ ?_<;>intro c1<;>try simp at c1
 .apply jM;refine zr q45_2 fun _ _ Z=>?_;simp(disch:=omega);and_intros<;>(try omega);apply Z;refine zt q45_2 fun _ _ Z=>?_;simp(disch:=omega);and_intros<;>(try omega);apply Z;apply zB;refine zk [2,3,5,6,7,8] ?_;refine zt q45_2 fun _ _ Z=>?_;simp(disch:=omega);and_intros<;>(try omega);apply Z;refine zq (k+1) ?_ ?_ ?_
  .omega
  .try dsimp only
   omega
  simp(disch:=omega)[Vd]
 obtain rfl:k=l.length:=by omega
 rw [aDe];apply zE;refine zr q45_2 fun _ _ Z=>?_;simp(disch:=omega);apply Z;apply aC;simp [aH]
@[simp] abbrev q45_3:Cfg:=⟨[34,48],[],[3],[],[]⟩
theorem aM3(v:VN)(σ:List (List D))(h:VSz v)(ih:∀k∈v.kids,aX1 k):Ct prog 31 [iX v] σ (fun r σ'=>(r.plain=true/\r.strip=iX v)/\∃J,σ'=σ++J):=by
 refine zf func31 ?_;obtain⟨h1,h2,h3,h4,h5⟩:=h;refine zr q45_3 fun _ _ Z=>?_;simp(disch:=omega)[aI,aG];apply Z;refine zd q45_3 [.op {},.op {rL:=true},.op {},.op {rL:=true},.op {},.op {rL:=true},.op {},.op {rL:=true},.op {},.op {},.op {rL:=true},.op {},.op {},.op {rL:=true},.pure,.op {},.op {rL:=true},.op {},.op {rO:=true,wO:=true},.op {rO:=true,wO:=true}] fun all hall _ Z=>?_;refine kF 8 fun _ Y=>?_;simp(disch:=omega)[aI,aG];apply Y;refine kF 6 fun _ Y=>?_;simp(disch:=omega)[aI,aG];and_intros<;>(try omega);apply Y;refine bY fun _ Y=>?_;simp(disch:=omega)[aI,aG];refine wI (fun _=>(aQm v.styles _ (by omega))) ?_;apply Y;simp(disch:=omega)[aI,aG];and_intros<;>(try omega);apply Z;apply aE;refine zk [1,2,3] ?_;refine zr q45_3 fun _ _ Z=>?_;simp(disch:=omega)[aI,aG];and_intros<;>(try omega);apply Z;apply aR;refine zk [1,2,3,27,28,29] ?_;refine kI (fun(k:Nat)=> [(29,.d (.v (.int .i64 (k:Int))))]) (fun(k:Nat)=> []) (fun(k:Nat)=> [(σ.length, [D.int v.kind,D.str v.tag,D.str v.key,D.str v.text,.sl false (v.classes.map D.str),.sl true ((tkA v.attrs k).map dA),.sl false (v.styles.map cQ),D.int v.opts.enter,D.int v.opts.leave,D.int v.opts.move,D.int v.opts.mode,D.bool v.opts.appear,D.bool v.opts.moves,.sl true ((tkV v.kids 0).map oG)])]) [5,29,30,31,32,33,34,35,36,37,38,39] (fun(k:Nat)=>k<=v.attrs.length) (fun(k:Nat)=>v.attrs.length - k) (0) (by simp <;> rfl) ?_ (by simp) (by simp [aI,aSv,aS1]) ?_ ?_
 .simp
 .simp
 rintro k hk;simp only [aQ,aO,lE,jP,gD,fY];have htl:=aC2 v.attrs k;refine zr q45_3 fun _ _ Z=>?_;simp(disch:=omega)[aI,aG];apply Z;apply aE;refine zI ?_ ?_<;>intro c1<;>try simp at c1
 .apply jM;refine zr q45_3 fun _ _ Z=>?_;simp(disch:=omega)[aI,aG];and_intros<;>(try omega);apply Z;refine zt q45_3 fun _ _ Z=>?_;simp(disch:=omega)[aI,aG];and_intros<;>(try omega);apply Z;apply zB;refine zk [1,2,3,27,28,29] ?_;refine zt q45_3 fun _ _ Z=>?_;simp(disch:=omega)[aI,aG];and_intros<;>(try omega);apply Z;refine fB (k+1) ?_ ?_ (dW rfl ?_ (by simp) (by simp [Wq, *]))
  .omega
  .try dsimp only
   omega
  simp(disch:=omega)[aI,aG]
 obtain rfl:k=v.attrs.length:=by omega
 apply zE;apply aE;refine zr q45_3 fun _ _ Z=>?_;simp(disch:=omega)[aI,aG];and_intros<;>(try omega);apply Z;apply aR;refine zk [2,3,41,42,43] ?_;refine kI (fun(j:Nat)=> [(43,.d (.v (.int .i64 (j:Int))))]) (fun(j:Nat)=> []) (fun(j:Nat)=> [(σ.length, [D.int v.kind,D.str v.tag,D.str v.key,D.str v.text,.sl false (v.classes.map D.str),.sl true ((tkA v.attrs v.attrs.length).map dA),.sl false (v.styles.map cQ),D.int v.opts.enter,D.int v.opts.leave,D.int v.opts.move,D.int v.opts.mode,D.bool v.opts.appear,D.bool v.opts.moves,.sl true ((tkV v.kids j).map oG)])]) [7,43,44,45,46,47,48,49,50,51,52,53,54] (fun(j:Nat)=>j<=v.kids.length) (fun(j:Nat)=>v.kids.length - j) (0) (by simp <;> rfl) ?_ (by simp) (by simp [aI,aS1]) ?_ ?_
 .simp
 .simp
 rintro j hj;simp only [aQ,aO,lE,jP,gD,fY];have htl2:=aPd v.kids j;refine zr q45_3 fun _ _ Z=>?_;simp(disch:=omega)[aI,aG];apply Z;apply aE;refine zI ?_ ?_<;>intro c2<;>try simp at c2
 .apply jM;refine zr q45_3 fun _ _ Z=>?_;simp(disch:=omega)[aI,aG];and_intros<;>(try omega);apply Z;refine ze q45_3 [.op {},.op {rO:=true,wO:=true},.op {rL:=true},.pure,.op {},.op {},.op {},.op {rO:=true,wO:=true}] fun all hall _ Z=>?_;refine kF 3 fun _ Y=>?_;simp(disch:=omega)[aI,aG];apply Y;refine bY fun _ Y=>?_;simp(disch:=omega)[aI,aG];refine wI (fun _=>(ih v.kids[j] (bS _) _)) ?_;apply Y;simp(disch:=omega)[aI,aG];and_intros<;>(try omega);apply Z;apply zB;refine zk [2,3,41,42,43] ?_;refine zt q45_3 fun _ _ Z=>?_;simp(disch:=omega)[aI,aG];and_intros<;>(try omega);apply Z;refine fB (j+1) ?_ ?_ (dW rfl ?_ (by simp) (by simp [aHp, *]))
  .omega
  .try dsimp only
   omega
  simp(disch:=omega)[aI,aG]
 obtain rfl:j=v.kids.length:=by omega
 rw [aBq,aPn];apply zE;refine zr q45_3 fun _ _ Z=>?_;simp(disch:=omega)[aI,aG];apply Z;apply aC;simp [aH]
theorem aB9(v:VN)(h:VG v)(hc:cB v<=9999):aX1 v:=fun σ=>
 have h1:Ct prog 31 [iX v] σ (fun r σ'=>r=iX v/\∃J,σ'=σ++J):=(aM3 v σ (h.sz hc) fun k hk=>aB9 k (h.k k hk) (by have:=dQ hk;omega)).strip fun r σ' h=>⟨h.1.1,h.1.2,h.2⟩
 h1.trim fun r σ' ⟨hr,J,hs⟩=>⟨σ,J,hs,rfl,by rw [hr];exact aC4 _ _,fun n cs h=> .inl h,hr,rfl⟩
termination_by cB v
decreasing_by
 have:=dQ hk;omega
end Go.Proofs.YtbgfljpnhhdkoaaGreat
