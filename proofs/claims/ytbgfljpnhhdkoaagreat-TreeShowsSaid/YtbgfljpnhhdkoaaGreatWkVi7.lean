import Derived.Test.YtbgfljpnhhdkoaaGreatWkDr11
set_option linter.all false
set_option maxRecDepth 20000
set_option maxHeartbeats 8000000
open Go.Proofs.Tryz
namespace Go.Proofs.YtbgfljpnhhdkoaaGreat
open Go Go.Vm
variable {j:Nat}{l:List VN}{v:VN}
def sU(v:VN)(j:Nat):List VN:=((v.kids.take j).filter jI).map cL
theorem aPq(v:VN):sU v 0= []:=rfl
theorem No(v:VN)(j:Nat):(sU v j).length<=j:=by
 unfold sU;rw [bS];have:=jD jI (v.kids.take j);simp only [bE] at this;omega
theorem Xs (h:j<v.kids.length)(hk:jI v.kids[j]=false):sU v (j+1)=sU v j:=by
 unfold sU;rw [bN _ _ h,fU,sC (by simp [hk]),lK,gR]
theorem Ju (h:j<v.kids.length)(hk:jI v.kids[j]=true):sU v (j+1)=sU v j++ [cL v.kids[j]]:=by
 unfold sU;rw [bN _ _ h,fU,qE hk,lK,cN];rfl
theorem aE5(v:VN):gV (sU v v.kids.length)=(cL v).kids:=by
 rw [lH];unfold sU;rw [dS,List.filter_map];congr 2;exact gX fun x _=>(aEh x).symm
theorem Nq(l:List VN):(gV l).length<=l.length:=by
 have:∀(l o:List VN),(l.foldl nV o).length<=o.length+l.length:=by
  intro l;induction l with
  | nil=>intro o;simp
  | cons a l ih=>
   intro o;have h1:=ih (nV o a);have h2:=Pu o a;simp only [dJ,cG];omega
 have:=this l [];simpa [gV] using this
theorem aD9 {o q:List VN} {k:VN} (hq:nV o k=q):∃h:0<q.length,q[q.length - 1].kind=k.kind:=by
 by_cases h:0<o.length
 .by_cases h1:o[o.length - 1].kind=1/\k.kind=1
  .rw [Ah h h1.1 h1.2] at hq;subst hq;refine⟨by simpa using h,?_⟩;simp [txt,h1.1,h1.2]
  rw [oP fun _=>h1] at hq;subst hq;exact⟨by simp,by simp⟩
 rw [oP fun h'=>absurd h' h] at hq;subst hq;exact⟨by simp,by simp⟩
theorem qN {i:Nat} (h:i<l.length):gV (l.take (i+1))=nV (gV (l.take i)) l[i]:=by
 rw [bN l i h,wV]
theorem It {o:List VN} {i:Nat} (ho:gV (l.take i)=o)(hi:0<i)(h:i<=l.length):∃h':0<o.length,o[o.length - 1].kind=(l[i - 1]'(by omega)).kind:=by
 obtain⟨n,rfl⟩:∃n,i=n+1:=⟨i - 1,by omega⟩;rw [qN (by omega)] at ho;exact aD9 ho
theorem Gc {B:Nat} (h:∀k∈l,k.text.size<=B):∀j,j<=l.length->∀k∈gV (l.take j),k.text.size<=j * B
 | 0,_=>fun k hk=>by simp [gV] at hk
 | j+1,hj=>fun k hk=>by
  have eB:(j+1) * B=j * B+B:=uN j B;rw [qN (by omega)] at hk;rw [eB];exact Pb (Gc h j (by omega)) (h _ (cB _)) k hk
abbrev aRb(v:VN):Prop:=∀σ:List (List D),Ct prog 34 [iH v] σ (fun r σ'=>r=iH (cL v)/\σ'=σ)
@[simp] abbrev q37_1:Cfg:=⟨[3,6,37,79],[],[],[69,71,77,82],[]⟩
theorem aFt(v:VN)(σ:List (List D))(h:VSz v)(ih:∀k∈v.kids,aRb k):Ct prog 34 [iH v] σ (fun r σ'=>(r.plain=true/\r.strip=iH (cL v))/\∃J,σ'=σ++J):=by
 refine zf func34 ?_;obtain⟨h1,h2,h3,h4,h5⟩:=h;refine zr q37_1 fun _ _ Z=>?_;simp(disch:=omega)[iU,bD];apply Z;refine zr q37_1 fun _ _ Z=>?_;refine zs 2 fun _ Y=>?_;simp(disch:=omega)[iU,bD];apply Y;refine aE fun _ Y=>?_;simp(disch:=omega)[iU,bD];refine cH (aEq v.classes _ (by omega)) ?_;apply Y;simp(disch:=omega)[iU,bD];apply Z;refine zr q37_1 fun _ _ Z=>?_;refine zs 2 fun _ Y=>?_;simp(disch:=omega)[iU,bD];apply Y;refine aE fun _ Y=>?_;simp(disch:=omega)[iU,bD];refine cH (aF2 v.attrs _ (by omega)) ?_;apply Y;simp(disch:=omega)[iU,bD];apply Z;refine zr q37_1 fun _ _ Z=>?_;refine zs 2 fun _ Y=>?_;simp(disch:=omega)[iU,bD];apply Y;refine aE fun _ Y=>?_;simp(disch:=omega)[iU,bD];refine cH (Ri v.styles _ (by omega)) ?_;apply Y;simp(disch:=omega)[iU,bD];apply Z;refine zk [1,2] ?_;refine zr q37_1 fun _ _ Z=>?_;simp(disch:=omega)[iU,bD];and_intros<;>(try omega);apply Z;apply aF;refine zr q37_1 fun _ _ Z=>?_;simp(disch:=omega)[iU,bD];and_intros<;>(try omega);apply Z;apply aR;refine zk [1,2,3,23,24,25] ?_;refine aY (fun(j:Nat)=> [(25,.d (.v (.int .i64 (j:Int)))),(3,.d (.sl true ((sU v j).map oF)))]) [3,5,25,26,27,28,29,30,31,32,33,34,35,36,37,38,39,40,41,42] (fun(j:Nat)=>j<=v.kids.length) (fun(j:Nat)=>v.kids.length - j) (0) (by simp <;> rfl) ?_ ?_ ?_
 .simp [aPq]
 .simp
 rintro j hj;simp only [aQ,aP];have hnl:=No v j;refine zr q37_1 fun _ _ Z=>?_;simp(disch:=omega)[iU,bD];apply Z;apply aF;refine zI ?_ ?_<;>intro c1<;>try simp at c1
 .apply jY;refine zr q37_1 fun _ _ Z=>?_;simp(disch:=omega)[iU,bD];and_intros<;>(try omega);apply Z;refine lS q37_1 fun all hall _ Z=>?_;have ga3:aN all 3=some 32:=hall 3;refine zs 4 fun _ Y=>?_;simp(disch:=omega)[iU,bD,ga3];apply Y;refine zb 32 ?_ ?_<;>intro g2<;>try simp at g2
  .have hnx:=Ju (v:=v) c1 (by simp [jI,g2]);simp(disch:=omega)[iU,bD,ga3];apply Z;refine aX (t:=true) (by simp) (fun _=>?_) (fun h=>by cases h);refine zk [1,2,3,5,23,24,25] ?_;refine zt q37_1 fun _ _ Z=>?_;refine zs 2 fun _ Y=>?_;simp(disch:=omega)[iU,bD];apply Y;refine aE fun _ Y=>?_;simp(disch:=omega)[iU,bD];refine cH (ih v.kids[j] (cB _) _) ?_;apply Y;simp(disch:=omega)[iU,bD];and_intros<;>(try omega);apply Z;apply zB;refine zk [1,2,3,23,24,25] ?_;refine zt q37_1 fun _ _ Z=>?_;simp(disch:=omega)[iU,bD];and_intros<;>(try omega);apply Z;refine zq (j+1) ?_ ?_ ?_
   .omega
   .try dsimp only
    omega
   simp(disch:=omega)[iU,bD,hnx]
  simp(disch:=omega)[iU,bD,ga3];apply Z;refine zI ?_ ?_<;>intro c3<;>try simp at c3
  .have hnx:=Ju (v:=v) c1 (by simp [jI,c3]);refine zk [1,2,3,5,23,24,25] ?_;refine zt q37_1 fun _ _ Z=>?_;refine zs 2 fun _ Y=>?_;simp(disch:=omega)[iU,bD];apply Y;refine aE fun _ Y=>?_;simp(disch:=omega)[iU,bD];refine cH (ih v.kids[j] (cB _) _) ?_;apply Y;simp(disch:=omega)[iU,bD];and_intros<;>(try omega);apply Z;apply zB;refine zk [1,2,3,23,24,25] ?_;refine zt q37_1 fun _ _ Z=>?_;simp(disch:=omega)[iU,bD];and_intros<;>(try omega);apply Z;refine zq (j+1) ?_ ?_ ?_
   .omega
   .try dsimp only
    omega
   simp(disch:=omega)[iU,bD,hnx]
  have hnx:=Xs (v:=v) c1 (by simp [jI,g2,c3]);apply nI;refine zk [1,2,3,23,24,25] ?_;refine zt q37_1 fun _ _ Z=>?_;simp(disch:=omega)[iU,bD];and_intros<;>(try omega);apply Z;refine zq (j+1) ?_ ?_ ?_
  .omega
  .try dsimp only
   omega
  simp(disch:=omega)[iU,bD,hnx]
 obtain rfl:j=v.kids.length:=by omega
 have hl1:=No v v.kids.length;have htx:∀k∈sU v v.kids.length,k.text.size<=9999:=fun k hk=>by
  unfold sU at hk;obtain⟨a,ha,rfl⟩:=aU.1 hk;rw [qL];exact h5 a (mD (dD.1 ha).1)
 have hal:=aE5 v;obtain⟨l,hl⟩:∃l,sU v v.kids.length=l:=⟨_,rfl⟩;rw [hl] at hl1 htx hal |-;apply zE;refine zr q37_1 fun _ _ Z=>?_;simp(disch:=omega)[iU,bD];and_intros<;>(try omega);apply Z;apply aF;refine zr q37_1 fun _ _ Z=>?_;simp(disch:=omega)[iU,bD];and_intros<;>(try omega);apply Z;apply aR;refine zk [1,2,3,6,44,45,46] ?_;refine Bw 6 14 (by simp <;> rfl) ?_;refine oS (fun(i:Nat)=> [(46,.d (.v (.int .i64 (i:Int)))),(6,.d (.xs 14 ((gV (l.take i)).map oF))),(7,.d (.any))]) (fun(i:Nat)=> [[D.int v.kind,D.str v.tag,D.str v.key,D.str v.text,.sl true ((bK v.classes).map D.str),.sl true ((hU nA v.attrs).map cW),.sl true ((hU nP v.styles).map cQ),D.int v.opts.enter,D.int v.opts.leave,D.int v.opts.move,D.int v.opts.mode,D.bool v.opts.appear,D.bool v.opts.moves,.sl false (v.kids.map oF)], [D.int 0,D.str ⟨#[]⟩,D.str ⟨#[]⟩,D.str ⟨#[]⟩,.sl true [],.sl true [],.sl true [],D.int 0,D.int 0,D.int 0,D.int 0,D.bool false,D.bool false,.sl true []]]) (fun(i:Nat)=>σ++List.replicate i []) [6,7,8,46,47,48,49,50,51,52,53,54,55,56,57,58,59,60,61,62,63,64,65,66,67,68,69,70,71,72,73,74,75,76,77,78,79,80,81,82,83] (fun(i:Nat)=>i<=l.length) (fun(i:Nat)=>l.length - i) (0) (by simp <;> rfl) ?_ (by simp) (by simp) ?_ ?_
 .simp [gV]
 .simp
 rintro i hi;simp only [aQ,aP];have hnl:=Nq (l.take i);rw [bE] at hnl;obtain⟨ks,hks⟩:∃ks,gV (l.take i)=ks:=⟨_,rfl⟩;rw [hks] at hnl |-;refine iL 6 14 (by simp <;> rfl) (by decide) fun cap rest hcap hcm hrest hk0 hes=>?_;simp only [bS] at hcap hrest |-;rw [qM];have hrl:rest.length=(cap - ks.length) * 14:=by rw [hrest,cO]
 clear hrest;have hdl:ks.length * 14+rest.length=cap * 14:=by omega
 have hdl2:(ks.flatMap cV++rest).length=cap * 14:=by rw [bB,My];exact hdl
 simp only [bB,cO,bU];refine zr q37_1 fun _ _ Z=>?_;simp(disch:=omega)[iU,bD];apply Z;apply aF;refine zI ?_ ?_<;>intro c4<;>try simp at c4
 .apply jY;refine zr q37_1 fun _ _ Z=>?_;simp(disch:=omega)[iU,bD];and_intros<;>(try omega);apply Z;refine zk [1,2,3,6,7,8,44,45,46] ?_;refine lS q37_1 fun all hall _ Z=>?_;have ga2:aN all 2=some 53:=hall 2;have ga7:aN all 7=some 58:=hall 7;refine zs 3 fun _ Y=>?_;simp(disch:=omega)[iU,bD,ga2,ga7];apply Y;refine zb 53 ?_ ?_<;>intro g5<;>try simp at g5
  .refine zs 5 fun _ Y=>?_;simp(disch:=omega)[iU,bD,ga2,ga7];apply Y;refine zb 58 ?_ ?_<;>intro g6<;>try simp at g6
   .simp(disch:=omega)[iU,bD,ga2,ga7];and_intros<;>(try omega);apply Z;refine zI ?_ ?_<;>intro c7<;>try simp at c7
    .obtain⟨hk1,hkl⟩:=It hks g5 hi;rw [c7] at hkl;obtain⟨hr0,hr3⟩:=aUx ks rest hk1;have hnx:gV (l.take (i+1))=ks.set (ks.length - 1) (txt ks[ks.length - 1] (ks[ks.length - 1].text++l[i].text)):=by rw [qN c4,hks,Ah hk1 hkl g6]
     have hsz:ks[ks.length - 1].text.size+l[i].text.size<=9223372036854775807:=by
      have ha:=Gc htx i hi;rw [hks] at ha;have hj9:i * 9999<=9999 * 9999:=fS _ (by omega);have ha:=ha _ (cB (by omega:ks.length - 1<ks.length));have hb:=htx l[i] (cB _);omega
     have hwr:=aVz ks rest hk1 (ks[ks.length - 1].text++l[i].text);refine zk [1,2,3,6,7,8,44,45,46] ?_;refine ze q37_1 [.op {},.op {},.op {},.op {},.op {},.op {},.op {rO:=true},.op {},.op {rL:=true},.op {},.op {},.op {},.op {rO:=true,wO:=true}] fun all hall _ Z=>?_;refine lM 8 fun _ Y=>?_;simp(disch:=omega)[iU,bD,hr3,hwr];and_intros<;>(try omega);apply Y;simp(disch:=omega)[iU,bD,hr3,hwr];and_intros<;>(try omega);apply Z;apply zB;refine fF 6 14 (σ.length+i) ks.length cap ((ks.set (ks.length - 1) (txt ks[ks.length - 1] (ks[ks.length - 1].text++l[i].text))).map oF) ((ks.set (ks.length - 1) (txt ks[ks.length - 1] (ks[ks.length - 1].text++l[i].text))).flatMap cV++rest) (by simp <;> rfl) (by simp [iU]) (by decide) (by simp only [bB,My,cF];omega) (by simp) (wT _) (by rw [qM];exact cZ _ _) ?_;refine zk [1,2,3,6,7,44,45,46] ?_;refine zt q37_1 fun _ _ Z=>?_;simp(disch:=omega)[iU,bD,hr3,hwr];and_intros<;>(try omega);apply Z;refine fC (i+1) ?_ ?_ (dU rfl ?_ (by simp) (by simp [pF]))
     .omega
     .try dsimp only
      omega
     simp(disch:=omega)[iU,bD,hnx,hr3,hwr]
    obtain⟨hk1,hkl⟩:=It hks g5 hi;have hnx:gV (l.take (i+1))=ks++ [l[i]]:=by rw [qN c4,hks,oP fun _ h=>c7 (by rw [<- hkl];exact h.1)]
    refine zk [1,2,3,6,7,8,44,45,46] ?_;refine zt q37_1 fun _ _ Z=>?_;refine zs 4 fun _ Y=>?_;simp(disch:=omega)[iU,bD];refine⟨by first | rfl | exact⟨rfl,rfl⟩ | trivial,_,ks.map oF,⟨rfl,hdl2,by simp,wT ks,by rw [qM];exact cZ _ _,by simp;omega,by simp [maxLen];omega⟩,?_⟩;and_intros<;>(try omega);apply Y;simp(disch:=omega)[iU,bD];apply Z;apply zB;refine zk [1,2,3,6,7,44,45,46] ?_;refine zt q37_1 fun _ _ Z=>?_;simp(disch:=omega)[iU,bD];and_intros<;>(try omega);apply Z;refine fC (i+1) ?_ ?_ (dU rfl ?_ (by simp) (by simp [pF]))
    .omega
    .try dsimp only
     omega
    simp(disch:=omega)[iU,bD,hnx]
   have hnx:gV (l.take (i+1))=ks++ [l[i]]:=by rw [qN c4,hks,oP fun _ h=>g6 h.2]
   simp(disch:=omega)[iU,bD,ga2,ga7];apply Z;refine aX (t:=false) (by simp) (fun h=>by cases h) (fun _=>?_);refine zk [1,2,3,6,7,8,44,45,46] ?_;refine zt q37_1 fun _ _ Z=>?_;refine zs 4 fun _ Y=>?_;simp(disch:=omega)[iU,bD];refine⟨by first | rfl | exact⟨rfl,rfl⟩ | trivial,_,ks.map oF,⟨rfl,hdl2,by simp,wT ks,by rw [qM];exact cZ _ _,by simp;omega,by simp [maxLen];omega⟩,?_⟩;and_intros<;>(try omega);apply Y;simp(disch:=omega)[iU,bD];apply Z;apply zB;refine zk [1,2,3,6,7,44,45,46] ?_;refine zt q37_1 fun _ _ Z=>?_;simp(disch:=omega)[iU,bD];and_intros<;>(try omega);apply Z;refine fC (i+1) ?_ ?_ (dU rfl ?_ (by simp) (by simp [pF]))
   .omega
   .try dsimp only
    omega
   simp(disch:=omega)[iU,bD,hnx]
  obtain rfl:i=0:=by omega
  have hnx:gV (l.take (0+1))=ks++ [l[0]]:=by rw [qN c4,hks,oP fun h _=>absurd h (by omega)]
  refine zs 5 fun _ Y=>?_;simp(disch:=omega)[iU,bD,ga2,ga7];apply Y;simp(disch:=omega)[iU,bD,ga2,ga7];apply Z;refine aX (t:=false) (by simp) (fun h=>by cases h) (fun _=>?_);refine zk [1,2,3,6,7,8,44,45,46] ?_;refine zt q37_1 fun _ _ Z=>?_;refine zs 4 fun _ Y=>?_;simp(disch:=omega)[iU,bD];refine⟨by first | rfl | exact⟨rfl,rfl⟩ | trivial,_,ks.map oF,⟨rfl,hdl2,by simp,wT ks,by rw [qM];exact cZ _ _,by simp;omega,by simp [maxLen];omega⟩,?_⟩;and_intros<;>(try omega);apply Y;simp(disch:=omega)[iU,bD];apply Z;apply zB;refine zk [1,2,3,6,7,44,45,46] ?_;refine zt q37_1 fun _ _ Z=>?_;simp(disch:=omega)[iU,bD];and_intros<;>(try omega);apply Z;refine fC (0+1) ?_ ?_ (dU rfl ?_ (by simp) (by simp [pF]))
  .omega
  .try dsimp only
   omega
  simp(disch:=omega)[iU,bD,hnx]
 obtain rfl:i=l.length:=by omega
 apply zE;refine zr q37_1 fun _ _ Z=>?_;simp(disch:=omega)[iU,bD];apply Z;refine Gy 0 13 (σ.length+l.length) ks.length cap 14 _ _ (ks.map oF) rfl rfl (by simp [iU]) (by decide) hdl2 (by simp) (wT _) (by rw [qM];exact cZ _ _) ?_;simp only [fV,gE];refine zr q37_1 fun _ _ Z=>?_;simp(disch:=omega)[iU,bD];apply Z;apply aC;rw [dS,hal] at hks;simp [aI];rw [<- hks,lH];simp
theorem Wq(v:VN)(h:VG v)(hc:cT v<=9999):aRb v:=fun σ=>
 have h1:Ct prog 34 [iH v] σ (fun r σ'=>r=iH (cL v)/\∃J,σ'=σ++J):=(aFt v σ (h.sz hc) fun k hk=>Wq k (h.k k hk) (by have:=dY hk;omega)).strip fun r σ' h=>⟨h.1.1,h.1.2,h.2⟩
 h1.trim fun r σ' ⟨hr,J,hs⟩=>⟨σ,J,hs,rfl,by rw [hr];exact aCa _ _,fun n cs h=> .inl h,hr,rfl⟩
termination_by cT v
decreasing_by
 have:=dY hk;omega
theorem aB8(x:Int): -2147483648<=An x/\An x<=2147483647:=by unfold An;omega
theorem Qk {x:Int} (h: -2147483648<=x/\x<=2147483647):An x=x:=by unfold An;omega
def aAj(a b:Int):Int:=An (An a+An b)
def Gf(l:List Int):Int:=l.foldl aAj 0
theorem aEn(l:List Int)(k:Nat)(h:k<l.length):Gf (l.take (k+1))=aAj (Gf (l.take k)) l[k]:=by
 unfold Gf;rw [bN l k h,jO];rfl
theorem aHh:∀(l:List Nat),l.sum<=1000000->Gf (l.map fun n:Nat=>(n:Int))=(l.sum:Nat):=by
 have:∀(l:List Nat) (a:Nat),a+l.sum<=1000000->(l.map fun n:Nat=>(n:Int)).foldl aAj (a:Int)=((a+l.sum:Nat):Int):=by
  intro l;induction l with
  | nil=>intro a h;simp
  | cons b l ih =>
   intro a h;simp only [jQ] at h;simp only [cD,dJ,jQ];have e:aAj (a:Int) (b:Int)=((a+b:Nat):Int):=by
    unfold aAj;rw [Qk (x:=(a:Int)) (by omega),Qk (x:=(b:Int)) (by omega),Qk (by omega)];omega
   rw [e,ih (a+b) (by omega)];congr 1;omega
 intro l h;have:=this l 0 (by omega);simpa [Gf] using this
def szK(v:VN)(j:Nat):List Int:=((v.kids.take j).map cT).map fun n:Nat=>(n:Int)
theorem aV9(v:VN):szK v 0= []:=rfl
theorem aO5(v:VN)(j:Nat):(szK v j).length<=j:=by unfold szK;simp;omega
theorem aHt (h:j<v.kids.length):szK v (j+1)=szK v j++ [(cT v.kids[j]:Int)]:=by
 unfold szK;rw [bN _ _ h,cN,cN];rfl
theorem aBc (h:cT v<=9999):1+Gf (szK v v.kids.length)=(cT v:Int):=by
 have e:=jW v;unfold szK;rw [dS,aHh _ (by omega)];omega
def Ab(v:VN)(k:Nat):Nat:=((v.kids.take k).map cT).sum
theorem Mv(v:VN)(k:Nat)(h:k<v.kids.length):Ab v (k+1)=Ab v k+cT v.kids[k]:=by
 unfold Ab;rw [bN _ _ h,cN,Eb];simp
theorem aGo(v:VN):Ab v v.kids.length+1=cT v:=by unfold Ab;rw [dS,jW];omega
theorem aA8(v:VN)(k:Nat):Ab v k+1<=cT v:=by
 rw [jW];unfold Ab;have:((v.kids.take k).map cT).sum+((v.kids.drop k).map cT).sum=(v.kids.map cT).sum:=by rw [<- Eb,<- cN,fL]
 omega
abbrev aQx(v:VN):Prop:=∀σ:List (List D),Ct prog 174 [iH v,.clo (.func 175) [] []] σ (fun r σ'=>r=D.int (cT v)/\σ'=σ)
theorem aQg(a b:Int)(σ:List (List D))  :Ct prog 220 [D.int a,D.int b] σ (fun r σ'=>r= .int (aAj a b)/\σ'=σ):=by
 refine zf func220 ?_;have hA:=aB8 a;have hB:=aB8 b;refine aZ fun _ _ Z=>?_;simp;apply Z;refine aZ fun _ _ Z=>?_;refine zs 1 fun _ Y=>?_;simp;apply Y;refine aE fun _ Y=>?_;simp;refine cH (Sa a _) ?_;apply Y;refine zs 1 fun _ Y=>?_;simp;apply Y;refine aE fun _ Y=>?_;simp;refine cH (Sa b _) ?_;apply Y;refine zs 1 fun _ Y=>?_;simp;and_intros<;>(try omega);apply Y;refine aE fun _ Y=>?_;simp;refine cH (Sa (An a+An b) _) ?_;apply Y;simp;apply Z;apply aC;simp [aI,aAj]
theorem aR5(l:List Int)(σ:List (List D))(hl:l.length<=99999):Ct prog 176 [.sl false (l.map D.int)] σ (fun r σ'=>r= .int (Gf l)/\σ'=σ):=by
 refine zf func176 ?_;refine aZ fun _ _ Z=>?_;simp(disch:=omega);apply Z;refine aZ fun _ _ Z=>?_;simp(disch:=omega);apply Z;apply aF;refine aZ fun _ _ Z=>?_;simp(disch:=omega);and_intros<;>(try omega);apply Z;apply aR;refine zk [2,3,6,7,8] ?_;refine aY (fun(k:Nat)=> [(8,.d (.v (.int .i64 (k:Int)))),(3,.d (.int (Gf (l.take k)))),(5,.d (.any))]) [3,5,8,9,10,11,12,13,14,15] (fun(k:Nat)=>k<=l.length) (fun(k:Nat)=>l.length - k) (0) (by simp <;> rfl) ?_ ?_ ?_
 .simp [Gf]
 .simp
 rintro k hk;simp only [aQ,aP];refine aZ fun _ _ Z=>?_;simp(disch:=omega);apply Z;apply aF;refine zI ?_ ?_<;>intro c1<;>try simp at c1
 .apply jY;refine aZ fun _ _ Z=>?_;simp(disch:=omega);and_intros<;>(try omega);apply Z;refine pB fun _ _ Z=>?_;refine zs 2 fun _ Y=>?_;simp(disch:=omega);apply Y;refine aE fun _ Y=>?_;simp(disch:=omega);refine cH (aQg (Gf (l.take k)) l[k] _) ?_;apply Y;simp(disch:=omega);apply Z;apply zB;refine zk [2,3,5,6,7,8] ?_;refine pB fun _ _ Z=>?_;simp(disch:=omega);and_intros<;>(try omega);apply Z;refine zq (k+1) ?_ ?_ ?_
  .omega
  .try dsimp only
   omega
  simp(disch:=omega)[aEn]
 obtain rfl:k=l.length:=by omega
 rw [dS];apply zE;refine aZ fun _ _ Z=>?_;simp(disch:=omega);apply Z;apply aC;simp [aI]
theorem aGy(v:VN)(l:List Int)(σ:List (List D))(hl:l.length<=99999)(hs: -9<=Gf l/\Gf l<=99999999):Ct prog 175 [iH v,.sl false (l.map D.int)] σ (fun r σ'=>r= .int (1+Gf l)/\σ'=σ):=by
 refine zf func175 ?_;refine aZ fun _ _ Z=>?_;simp;apply Z;refine aZ fun _ _ Z=>?_;refine zs 1 fun _ Y=>?_;simp;apply Y;refine aE fun _ Y=>?_;simp;refine cH (aR5 l _ hl) ?_;apply Y;simp;and_intros<;>(try omega);apply Z;apply aC;simp [aI]
theorem aKm(v:VN)(σ:List (List D))(hc:cT v<=9999)(ih:∀k∈v.kids,aQx k):Ct prog 174 [iH v,.clo (.func 175) [] []] σ (fun r σ'=>r= .int (cT v)/\σ'=σ):=by
 refine zf func174 ?_;have hkl:=mP v;refine zr ⟨[5,15],[],[],[],[]⟩ fun _ _ Z=>?_;simp(disch:=omega);apply Z;refine zr ⟨[5,15],[],[],[],[]⟩ fun _ _ Z=>?_;simp(disch:=omega);apply Z;apply aF;refine zr ⟨[5,15],[],[],[],[]⟩ fun _ _ Z=>?_;simp(disch:=omega);and_intros<;>(try omega);apply Z;apply aR;refine zk [1,2,4,5,9,10,11] ?_;refine aY (fun(j:Nat)=> [(11,.d (.v (.int .i64 (j:Int)))),(5,.d (.sl true ((szK v j).map D.int))),(7,.d (.any))]) [5,7,11,12,13,14,15,16,17,18,19,20,21] (fun(j:Nat)=>j<=v.kids.length) (fun(j:Nat)=>v.kids.length - j) (0) (by simp <;> rfl) ?_ ?_ ?_
 .simp [aV9]
 .simp
 rintro j hj;simp only [aQ,aP];have hzl:=aO5 v j;refine zr ⟨[5,15],[],[],[],[]⟩ fun _ _ Z=>?_;simp(disch:=omega);apply Z;apply aF;refine zI ?_ ?_<;>intro c1<;>try simp at c1
 .have hnx:=aHt c1;apply jY;refine zr ⟨[5,15],[],[],[],[]⟩ fun _ _ Z=>?_;simp(disch:=omega);and_intros<;>(try omega);apply Z;refine zk [1,2,4,5,7,9,10,11] ?_;refine zt ⟨[5,15],[],[],[],[]⟩ fun _ _ Z=>?_;refine zs 3 fun _ Y=>?_;simp(disch:=omega);apply Y;refine aE fun _ Y=>?_;simp(disch:=omega);refine cH (ih v.kids[j] (cB _) _) ?_;apply Y;simp(disch:=omega);and_intros<;>(try omega);apply Z;apply zB;refine zk [1,2,4,5,7,9,10,11] ?_;refine zt ⟨[5,15],[],[],[],[]⟩ fun _ _ Z=>?_;simp(disch:=omega);and_intros<;>(try omega);apply Z;refine zq (j+1) ?_ ?_ ?_
  .omega
  .try dsimp only
   omega
  simp(disch:=omega)[hnx]
 obtain rfl:j=v.kids.length:=by omega
 have hall:=aBc hc;apply zE;refine zr ⟨[5,15],[],[],[],[]⟩ fun _ _ Z=>?_;refine zs 3 fun _ Y=>?_;simp(disch:=omega);apply Y;refine aE fun _ Y=>?_;simp(disch:=omega);refine cH (aGy v (szK v v.kids.length) _ (by omega) (by have:=aBc hc;omega)) ?_;apply Y;simp(disch:=omega);apply Z;apply aC;simp [aI,hall]
theorem aB9(v:VN)(hc:cT v<=9999):aQx v:=fun σ=>aKm v σ hc fun k hk=>aB9 k (by have:=dY hk;omega)
termination_by cT v
decreasing_by
 have:=dY hk;omega
theorem aQl(v:VN)(σ:List (List D))(hc:cT v<=9999):Ct prog 92 [iH v] σ (fun r σ'=>r= .int (cT v)/\σ'=σ):=by
 refine zf func92 ?_;refine aZ fun _ _ Z=>?_;simp;apply Z;refine aZ fun _ _ Z=>?_;refine zs 1 fun _ Y=>?_;simp;apply Y;refine aE fun _ Y=>?_;simp;refine cH (aB9 v hc _) ?_;apply Y;simp;apply Z;apply aC;simp [aI]
def tkP(l:List PI)(k:Nat):List PI:=l.take k
theorem aG9(l:List PI):tkP l 0= []:=rfl
theorem Vz(l:List PI)(k:Nat)(h:k<l.length):tkP l (k+1)=tkP l k++ [l[k]]:=bN l k h
theorem aCf(l:List PI)(k:Nat):(tkP l k).length<=k:=by unfold tkP;rw [bE];omega
theorem aCi(l:List PI):tkP l l.length=l:=dS
def tkA(l:List AT)(k:Nat):List AT:=l.take k
theorem aRg(l:List AT):tkA l 0= []:=rfl
theorem Ww(l:List AT)(k:Nat)(h:k<l.length):tkA l (k+1)=tkA l k++ [l[k]]:=bN l k h
theorem aCg(l:List AT)(k:Nat):(tkA l k).length<=k:=by unfold tkA;rw [bE];omega
theorem aBz(l:List AT):tkA l l.length=l:=dS
def tkV(l:List VN)(k:Nat):List VN:=l.take k
theorem aQ7(l:List VN):tkV l 0= []:=rfl
theorem aJq(l:List VN)(k:Nat)(h:k<l.length):tkV l (k+1)=tkV l k++ [l[k]]:=bN l k h
theorem aO0(l:List VN)(k:Nat):(tkV l k).length<=k:=by unfold tkV;rw [bE];omega
theorem aO8(l:List VN):tkV l l.length=l:=dS
abbrev aVm(v:VN):Prop:=∀σ:List (List D),Ct prog 31 [iH v] σ (fun r σ'=>r=iH v/\σ'=σ)
@[simp] abbrev q37_2:Cfg:=⟨[2,3,12,17],[],[],[],[]⟩
theorem aPn(l:List PI)(σ:List (List D))(hl:l.length<=99999):Ct prog 94 [.sl false (l.map cQ)] σ (fun r σ'=>r= .sl true (l.map cQ)/\σ'=σ):=by
 refine zf func94 ?_;refine zr q37_2 fun _ _ Z=>?_;simp(disch:=omega);apply Z;refine zr q37_2 fun _ _ Z=>?_;simp(disch:=omega);apply Z;apply aF;refine zr q37_2 fun _ _ Z=>?_;simp(disch:=omega);and_intros<;>(try omega);apply Z;apply aR;refine zk [2,3,6,7,8] ?_;refine aY (fun(k:Nat)=> [(8,.d (.v (.int .i64 (k:Int)))),(3,.d (.sl true ((tkP l k).map cQ))),(5,.d (.any))]) [3,5,8,9,10,11,12,13,14,15,16] (fun(k:Nat)=>k<=l.length) (fun(k:Nat)=>l.length - k) (0) (by simp <;> rfl) ?_ ?_ ?_
 .simp [aG9]
 .simp
 rintro k hk;simp only [aQ,aP];have htl:=aCf l k;refine zr q37_2 fun _ _ Z=>?_;simp(disch:=omega);apply Z;apply aF;refine zI ?_ ?_<;>intro c1<;>try simp at c1
 .apply jY;refine zr q37_2 fun _ _ Z=>?_;simp(disch:=omega);and_intros<;>(try omega);apply Z;refine zt q37_2 fun _ _ Z=>?_;simp(disch:=omega);and_intros<;>(try omega);apply Z;apply zB;refine zk [2,3,5,6,7,8] ?_;refine zt q37_2 fun _ _ Z=>?_;simp(disch:=omega);and_intros<;>(try omega);apply Z;refine zq (k+1) ?_ ?_ ?_
  .omega
  .try dsimp only
   omega
  simp(disch:=omega)[Vz]
 obtain rfl:k=l.length:=by omega
 rw [aCi];apply zE;refine zr q37_2 fun _ _ Z=>?_;simp(disch:=omega);apply Z;apply aC;simp [aI]
@[simp] abbrev q37_3:Cfg:=⟨[34,48],[],[3],[],[]⟩
theorem aHv(v:VN)(σ:List (List D))(h:VSz v)(ih:∀k∈v.kids,aVm k):Ct prog 31 [iH v] σ (fun r σ'=>(r.plain=true/\r.strip=iH v)/\∃J,σ'=σ++J):=by
 refine zf func31 ?_;obtain⟨h1,h2,h3,h4,h5⟩:=h;refine zr q37_3 fun _ _ Z=>?_;simp(disch:=omega)[aJ,aG];apply Z;refine zd q37_3 [.op {},.op {rL:=true},.op {},.op {rL:=true},.op {},.op {rL:=true},.op {},.op {rL:=true},.op {},.op {},.op {rL:=true},.op {},.op {},.op {rL:=true},.pure,.op {},.op {rL:=true},.op {},.op {rO:=true,wO:=true},.op {rO:=true,wO:=true}] fun all hall _ Z=>?_;refine lM 8 fun _ Y=>?_;simp(disch:=omega)[aJ,aG];apply Y;refine lM 6 fun _ Y=>?_;simp(disch:=omega)[aJ,aG];and_intros<;>(try omega);apply Y;refine bV fun _ Y=>?_;simp(disch:=omega)[aJ,aG];refine xH (fun _=>(aPn v.styles _ (by omega))) ?_;apply Y;simp(disch:=omega)[aJ,aG];and_intros<;>(try omega);apply Z;apply aF;refine zk [1,2,3] ?_;refine zr q37_3 fun _ _ Z=>?_;simp(disch:=omega)[aJ,aG];and_intros<;>(try omega);apply Z;apply aR;refine zk [1,2,3,27,28,29] ?_;refine kE (fun(k:Nat)=> [(29,.d (.v (.int .i64 (k:Int))))]) (fun(k:Nat)=> []) (fun(k:Nat)=> [(σ.length, [D.int v.kind,D.str v.tag,D.str v.key,D.str v.text,.sl false (v.classes.map D.str),.sl true ((tkA v.attrs k).map cW),.sl false (v.styles.map cQ),D.int v.opts.enter,D.int v.opts.leave,D.int v.opts.move,D.int v.opts.mode,D.bool v.opts.appear,D.bool v.opts.moves,.sl true ((tkV v.kids 0).map oF)])]) [5,29,30,31,32,33,34,35,36,37,38,39] (fun(k:Nat)=>k<=v.attrs.length) (fun(k:Nat)=>v.attrs.length - k) (0) (by simp <;> rfl) ?_ (by simp) (by simp [aJ,aRg,aQ7]) ?_ ?_
 .simp
 .simp
 rintro k hk;simp only [aQ,aP,lJ,jS,gE,fV];have htl:=aCg v.attrs k;refine zr q37_3 fun _ _ Z=>?_;simp(disch:=omega)[aJ,aG];apply Z;apply aF;refine zI ?_ ?_<;>intro c1<;>try simp at c1
 .apply jY;refine zr q37_3 fun _ _ Z=>?_;simp(disch:=omega)[aJ,aG];and_intros<;>(try omega);apply Z;refine zt q37_3 fun _ _ Z=>?_;simp(disch:=omega)[aJ,aG];and_intros<;>(try omega);apply Z;apply zB;refine zk [1,2,3,27,28,29] ?_;refine zt q37_3 fun _ _ Z=>?_;simp(disch:=omega)[aJ,aG];and_intros<;>(try omega);apply Z;refine fC (k+1) ?_ ?_ (dU rfl ?_ (by simp) (by simp [Ww, *]))
  .omega
  .try dsimp only
   omega
  simp(disch:=omega)[aJ,aG]
 obtain rfl:k=v.attrs.length:=by omega
 apply zE;apply aF;refine zr q37_3 fun _ _ Z=>?_;simp(disch:=omega)[aJ,aG];and_intros<;>(try omega);apply Z;apply aR;refine zk [2,3,41,42,43] ?_;refine kE (fun(j:Nat)=> [(43,.d (.v (.int .i64 (j:Int))))]) (fun(j:Nat)=> []) (fun(j:Nat)=> [(σ.length, [D.int v.kind,D.str v.tag,D.str v.key,D.str v.text,.sl false (v.classes.map D.str),.sl true ((tkA v.attrs v.attrs.length).map cW),.sl false (v.styles.map cQ),D.int v.opts.enter,D.int v.opts.leave,D.int v.opts.move,D.int v.opts.mode,D.bool v.opts.appear,D.bool v.opts.moves,.sl true ((tkV v.kids j).map oF)])]) [7,43,44,45,46,47,48,49,50,51,52,53,54] (fun(j:Nat)=>j<=v.kids.length) (fun(j:Nat)=>v.kids.length - j) (0) (by simp <;> rfl) ?_ (by simp) (by simp [aJ,aQ7]) ?_ ?_
 .simp
 .simp
 rintro j hj;simp only [aQ,aP,lJ,jS,gE,fV];have htl2:=aO0 v.kids j;refine zr q37_3 fun _ _ Z=>?_;simp(disch:=omega)[aJ,aG];apply Z;apply aF;refine zI ?_ ?_<;>intro c2<;>try simp at c2
 .apply jY;refine zr q37_3 fun _ _ Z=>?_;simp(disch:=omega)[aJ,aG];and_intros<;>(try omega);apply Z;refine ze q37_3 [.op {},.op {rO:=true,wO:=true},.op {rL:=true},.pure,.op {},.op {},.op {},.op {rO:=true,wO:=true}] fun all hall _ Z=>?_;refine lM 3 fun _ Y=>?_;simp(disch:=omega)[aJ,aG];apply Y;refine bV fun _ Y=>?_;simp(disch:=omega)[aJ,aG];refine xH (fun _=>(ih v.kids[j] (cB _) _)) ?_;apply Y;simp(disch:=omega)[aJ,aG];and_intros<;>(try omega);apply Z;apply zB;refine zk [2,3,41,42,43] ?_;refine zt q37_3 fun _ _ Z=>?_;simp(disch:=omega)[aJ,aG];and_intros<;>(try omega);apply Z;refine fC (j+1) ?_ ?_ (dU rfl ?_ (by simp) (by simp [aJq, *]))
  .omega
  .try dsimp only
   omega
  simp(disch:=omega)[aJ,aG]
 obtain rfl:j=v.kids.length:=by omega
 rw [aBz,aO8];apply zE;refine zr q37_3 fun _ _ Z=>?_;simp(disch:=omega)[aJ,aG];apply Z;apply aC;simp [aI]
theorem Ib(v:VN)(h:VG v)(hc:cT v<=9999):aVm v:=fun σ=>
 have h1:Ct prog 31 [iH v] σ (fun r σ'=>r=iH v/\∃J,σ'=σ++J):=(aHv v σ (h.sz hc) fun k hk=>Ib k (h.k k hk) (by have:=dY hk;omega)).strip fun r σ' h=>⟨h.1.1,h.1.2,h.2⟩
 h1.trim fun r σ' ⟨hr,J,hs⟩=>⟨σ,J,hs,rfl,by rw [hr];exact aCa _ _,fun n cs h=> .inl h,hr,rfl⟩
termination_by cT v
decreasing_by
 have:=dY hk;omega
end Go.Proofs.YtbgfljpnhhdkoaaGreat
