import Derived.Test.YtbdjepeabjangaaGreatWkVi2
set_option linter.all false
set_option maxRecDepth 20000
set_option maxHeartbeats 8000000
open Go.Proofs.Tryz
namespace Go.Proofs.YtbdjepeabjangaaGreat
open Go Go.Vm
variable {l:List VN}{v:VN}
theorem De(l:List PI)(σ:List (List D))(hl:l.length<=999999):Ct prog 50 [.sl false (l.map bY)] σ (fun r σ'=>r= .sl false ((jD nP l).map bY)/\σ'=σ):=(Sa l σ hl).freeze fun r σ' h=>h
theorem Kx(l:List AT)(σ:List (List D))(hl:l.length<=999999):Ct prog 88 [.sl false (l.map cH)] σ (fun r σ'=>r= .sl false ((jD nA l).map cH)/\σ'=σ):=(Me l σ hl).freeze fun r σ' h=>h
theorem gO(σ:List (List D))(k:Nat)(c:List D):(σ++(List.replicate k []++ [c]))[σ.length+k]?=some c:=by
 rw [bR (by omega),bR (by simp)];simp
theorem aT(σ:List (List D))(k:Nat)(c x:List D):(σ++(List.replicate k []++ [c])).set (σ.length+k) x=σ++(List.replicate k []++ [x]):=by
 rw [kH _ _ (by omega),kH _ _ (by simp)];simp
theorem mM(k:Nat):List.replicate k ([]:List D)++ [[]]=List.replicate (k+1) []:=(List.replicate_succ' ..).symm
abbrev VSz(v:VN):Prop:=v.classes.length<=9999/\v.attrs.length<=9999/\v.styles.length<=9999/\v.kids.length<=9999/\∀k∈v.kids,k.text.size<=9999
abbrev aMu(v:VN):Prop:=∀σ:List (List D),Ct prog 79 [jN v] σ (fun r σ'=>r=jN (eR v)/\σ'=σ)
theorem aQz(ks:List VN)(rest:List D)(h:0<ks.length):(∀h',(ks.flatMap cV++rest)[(ks.length - 1) * 14]'h'=D.int ks[ks.length - 1].kind)/\∀h',(ks.flatMap cV++rest)[(ks.length - 1) * 14+3]'h'=D.str ks[ks.length - 1].text:=by
 refine⟨fun h'=>?_,fun h'=>?_⟩
 .have:=aL6 ks rest (ks.length - 1) 0 (by omega) (by decide);rw [jI,aS h'] at this;simpa [cV] using this
 have:=aL6 ks rest (ks.length - 1) 3 (by omega) (by decide);rw [aS h'] at this;simpa [cV] using this
theorem aQl(ks:List VN)(rest:List D)(h:0<ks.length)(s:ByteArray):List.take ((ks.length - 1) * 14+3) (ks.flatMap cV++rest)++D.str s::List.drop ((ks.length - 1) * 14+3+1) (ks.flatMap cV++rest)=(ks.set (ks.length - 1) (txt ks[ks.length - 1] s)).flatMap cV++rest:=by
 rw [<- aP9 ks rest (ks.length - 1) s (by omega),Ig,aR];rw [bC,Ih];omega
@[simp] abbrev q45_1:Cfg:=⟨[3,31],[],[],[29,55,62,68,34],[]⟩
theorem aGz (v : VN) (σ : List (List D)) (h : VSz v) (ih : ∀ k ∈ v.kids, aMu k) : Ct prog 79 [jN v] σ (fun r σ' => (r.plain = true /\ r.strip = jN (eR v)) /\ ∃ J, σ' = σ ++ J) := by
 refine zf func79 ?_;obtain⟨h1,h2,h3,h4,h5⟩:=h;refine zr q45_1 fun _ _ Z=>?_;simp(disch:=omega)[gO,aT];apply Z;refine zd q45_1 [.op {},.op {rL:=true},.pure,.op {},.op {rL:=true},.pure,.op {},.op {rL:=true},.pure,.op {},.op {rL:=true,wL:=true},.op {},.op {rL:=true,wL:=true},.op {},.op {rL:=true,wL:=true}] fun all hall _ Z=>?_;refine iK 2 fun _ Y=>?_;simp(disch:=omega)[gO,aT];apply Y;refine bJ fun _ Y=>?_;simp(disch:=omega)[gO,aT];refine pH (fun _=>(aG2 v.classes _ (by omega))) ?_;apply Y;refine iK 2 fun _ Y=>?_;simp(disch:=omega)[gO,aT];apply Y;refine bJ fun _ Y=>?_;simp(disch:=omega)[gO,aT];refine pH (fun _=>(Kx v.attrs _ (by omega))) ?_;apply Y;refine iK 2 fun _ Y=>?_;simp(disch:=omega)[gO,aT];apply Y;refine bJ fun _ Y=>?_;simp(disch:=omega)[gO,aT];refine pH (fun _=>(De v.styles _ (by omega))) ?_;apply Y;simp(disch:=omega)[gO,aT];apply Z;refine zk [1,2] ?_;refine zr q45_1 fun _ _ Z=>?_;simp(disch:=omega)[gO,aT];apply Z;apply aF;refine zr q45_1 fun _ _ Z=>?_;simp(disch:=omega)[gO,aT];and_intros<;>(try omega);apply Z;apply aN;refine zk [1,2,3,20,21,22] ?_;refine yE 3 14 (by simp <;> rfl) ?_;refine oY (fun(j:Nat)=> [(22,.d (.v (.int .i64 (j:Int)))),(3,.d (.xs 14 ((Ge v j).map jO))),(6,.d (.any))]) (fun(j:Nat)=> [[D.int v.kind,D.str v.tag,D.str v.key,D.str v.text,.sl true ((lY v.classes).map D.str),.sl false ((jD nA v.attrs).map cH),.sl false ((jD nP v.styles).map bY),D.int v.opts.enter,D.int v.opts.leave,D.int v.opts.move,D.int v.opts.mode,D.bool v.opts.appear,D.bool v.opts.moves,.sl false (v.kids.map jO)], [D.int 0,D.str ⟨#[]⟩,D.str ⟨#[]⟩,D.str ⟨#[]⟩,.sl true [],.sl true [],.sl true [],D.int 0,D.int 0,D.int 0,D.int 0,D.bool false,D.bool false,.sl true []]]) (fun(j:Nat)=>σ++List.replicate j []) [3,5,6,22,23,24,25,26,27,28,29,30,31,32,33,34,35,36,37,38,39,40,41,42,43,44,45,46,47,48,49,50,51,52,53,54,55,56,57,58,59,60,61,62,63,64,65,66,67,68,69,70] (fun(j:Nat)=>j<=v.kids.length) (fun(j:Nat)=>v.kids.length - j) (0) (by simp <;> rfl) ?_ (by simp) (by simp) ?_ ?_
 .simp [aEm]
 .simp
 rintro j hj;simp only [aM,aK];have hnl:=Dk v j;obtain⟨ks,hks⟩:∃ks,Ge v j=ks:=⟨_,rfl⟩;rw [hks] at hnl |-;refine kV 3 14 (by simp <;> rfl) (by decide) fun cap rest hcap hcm hrest hk0 hes=>?_;simp only [cG] at hcap hrest |-;rw [nJ];have hrl:rest.length=(cap - ks.length) * 14:=by rw [hrest,cY]
 clear hrest;have hdl:ks.length * 14+rest.length=cap * 14:=by omega
 have hdl2:(ks.flatMap cV++rest).length=cap * 14:=by rw [bC,Ih];exact hdl
 simp only [bC,cY,bU];refine zr q45_1 fun _ _ Z=>?_;simp(disch:=omega)[gO,aT];apply Z;apply aF;refine zI ?_ ?_<;>intro c1<;>try simp at c1
 .apply kL;refine zr q45_1 fun _ _ Z=>?_;simp (disch:=omega)[gO,aT];and_intros<;>(try omega);apply Z;refine zr q45_1 fun _ _ Z=>?_;refine zs 1 fun _ Y=>?_;simp (disch:=omega)[gO,aT];apply Y;refine aG fun _ Y=>?_;simp (disch:=omega)[gO,aT];refine dX (ih v.kids[j] (bS _) _) ?_;obtain ⟨q, hq⟩ : ∃ q, eR v.kids[j] = q := ⟨_, rfl⟩;rw [hq];apply Y;simp (disch:=omega)[gO,aT];apply Z;refine zk [1,2,3,5,6,20,21,22] ?_;refine zr q45_1 fun _ _ Z=>?_;simp (disch:=omega)[gO,aT];and_intros<;>(try omega);apply Z;apply aN;refine zk [1,2,3,5,6,20,21,22] ?_;refine oL q45_1 fun all hall _ Z=>?_;have ga3 : aQ all 3 = some 39 := hall 3;refine zs 4 fun _ Y=>?_;simp (disch:=omega)[gO,aT,ga3];apply Y;refine zb 39 ?_ ?_<;>intro g2<;>try simp at g2
  .simp (disch:=omega)[gO,aT,ga3];apply Z;refine zI ?_ ?_<;>intro c3<;>try simp at c3
   .have hnx:Ge v (j+1)=ks:=by rw [Nj c1 (by rw [hq];simp [jB,g2,c3]),hks]
    refine eY 3 14 (σ.length+j) ks.length cap ((ks).map jO) ((ks).flatMap cV++rest) (by simp <;> rfl) (by simp [gO]) (by decide) (by simp only [bC,Ih,dS];omega) (by simp) (tU _) (by rw [nJ];exact cU _ _) ?_;apply fM;apply iV;apply zB;refine zk [1,2,3,6,20,21,22] ?_;refine zt q45_1 fun _ _ Z=>?_;simp(disch:=omega)[gO,aT];and_intros<;>(try omega);apply Z;refine cQ (j+1) ?_ ?_ (aU rfl ?_ (by simp) (by simp [mM]))
    .omega
    .try dsimp only
     omega
    simp(disch:=omega)[gO,aT,hnx]
   refine zk [1,2,3,5,6,20,21,22] ?_;refine oL q45_1 fun all hall _ Z=>?_;have ga3:aQ all 3=some 48:=hall 3;have ga7:aQ all 7=some 52:=hall 7;refine zs 4 fun _ Y=>?_;simp(disch:=omega)[gO,aT,ga3,ga7];apply Y;refine zb 48 ?_ ?_<;>intro g4<;>try simp at g4
   .refine zs 4 fun _ Y=>?_;simp(disch:=omega)[gO,aT,ga3,ga7];apply Y;refine zb 52 ?_ ?_<;>intro g5<;>try simp at g5
    .have hkp:jB q=true:=by simp [jB,c3]
     have hk1:0<ks.length:=by omega
     obtain⟨hr0,hr3⟩:=aQz ks rest hk1;simp(disch:=omega)[gO,aT,ga3,ga7,hr0,hr3];and_intros<;>(try omega);apply Z;refine zI ?_ ?_<;>intro c6<;>try simp at c6
     .have hnx:Ge v (j+1)=ks.set (ks.length - 1) (txt ks[ks.length - 1] (ks[ks.length - 1].text++q.text)):=by rw [uA c1 (by rw [hq];exact hkp),hks,hq,xD hk1 c6 g2]
      have hsz:ks[ks.length - 1].text.size+q.text.size<=9223372036854775807:=by
        have ha:=Ux h5 j (by omega);rw [hks] at ha;have hj9:j * 9999<=9999 * 9999:=eS _ (by omega);have ha:=ha _ (bS (by omega:ks.length - 1<ks.length));have hb:=h5 v.kids[j] (bS _);rw [<- qA,hq] at hb;omega
      have hwr:=aQl ks rest hk1 (ks[ks.length - 1].text++q.text);refine zk [1,2,3,5,6,20,21,22] ?_;refine ze q45_1 [.op {},.op {},.op {},.op {},.op {rO:=true},.op {},.op {rL:=true},.op {},.op {},.op {},.op {rO:=true,wO:=true}] fun all hall _ Z=>?_;refine iK 8 fun _ Y=>?_;simp(disch:=omega)[gO,aT,hr0,hr3,hwr];and_intros<;>(try omega);apply Y;simp(disch:=omega)[gO,aT,hr0,hr3,hwr];and_intros<;>(try omega);apply Z;apply iV;apply zB;refine eY 3 14 (σ.length+j) ks.length cap ((ks.set (ks.length - 1) (txt ks[ks.length - 1] (ks[ks.length - 1].text++q.text))).map jO) ((ks.set (ks.length - 1) (txt ks[ks.length - 1] (ks[ks.length - 1].text++q.text))).flatMap cV++rest) (by simp <;> rfl) (by simp [gO]) (by decide) (by simp only [bC,Ih,dS];omega) (by simp) (tU _) (by rw [nJ];exact cU _ _) ?_;refine zk [1,2,3,6,20,21,22] ?_;refine zt q45_1 fun _ _ Z=>?_;simp(disch:=omega)[gO,aT,hr0,hr3,hwr];and_intros<;>(try omega);apply Z;refine cQ (j+1) ?_ ?_ (aU rfl ?_ (by simp) (by simp [mM]))
      .omega
      .try dsimp only
       omega
      simp(disch:=omega)[gO,aT,hnx,hr0,hr3,hwr]
     have hnx:Ge v (j+1)=ks++ [q]:=by rw [uA c1 (by rw [hq];exact hkp),hks,hq,lW fun _ h=>c6 h.1]
     refine zk [1,2,3,5,6,20,21,22] ?_;refine zt q45_1 fun _ _ Z=>?_;refine zs 4 fun _ Y=>?_;simp(disch:=omega)[gO,aT];refine⟨by first | rfl | exact⟨rfl,rfl⟩ | trivial,_,ks.map jO,⟨rfl,hdl2,by simp,tU ks,by rw [nJ];exact cU _ _,by simp;omega,by simp [maxLen];omega⟩,?_⟩;and_intros<;>(try omega);apply Y;simp(disch:=omega)[gO,aT];apply Z;apply iV;apply zB;refine zk [1,2,3,6,20,21,22] ?_;refine zt q45_1 fun _ _ Z=>?_;simp(disch:=omega)[gO,aT];and_intros<;>(try omega);apply Z;refine cQ (j+1) ?_ ?_ (aU rfl ?_ (by simp) (by simp [mM]))
     .omega
     .try dsimp only
      omega
     simp(disch:=omega)[gO,aT,hnx]
    have hkp:jB q=true:=by simp [jB,c3]
    have hnx:Ge v (j+1)=ks++ [q]:=by rw [uA c1 (by rw [hq];exact hkp),hks,hq,lW fun h _=>absurd h (by omega)]
    simp(disch:=omega)[gO,aT,ga3,ga7];apply Z;refine aY (t:=false) (by simp) (fun h=>by cases h) (fun _=>?_);refine zk [1,2,3,5,6,20,21,22] ?_;refine zt q45_1 fun _ _ Z=>?_;refine zs 4 fun _ Y=>?_;simp(disch:=omega)[gO,aT];refine⟨by first | rfl | exact⟨rfl,rfl⟩ | trivial,_,ks.map jO,⟨rfl,hdl2,by simp,tU ks,by rw [nJ];exact cU _ _,by simp;omega,by simp [maxLen];omega⟩,?_⟩;and_intros<;>(try omega);apply Y;simp(disch:=omega)[gO,aT];apply Z;apply iV;apply zB;refine zk [1,2,3,6,20,21,22] ?_;refine zt q45_1 fun _ _ Z=>?_;simp(disch:=omega)[gO,aT];and_intros<;>(try omega);apply Z;refine cQ (j+1) ?_ ?_ (aU rfl ?_ (by simp) (by simp [mM]))
    .omega
    .try dsimp only
     omega
    simp(disch:=omega)[gO,aT,hnx]
   exact absurd g2 g4
  have hnx:Ge v (j+1)=ks++ [q]:=by rw [uA c1 (by rw [hq];simp [jB,g2]),hks,hq,lW fun _ h=>g2 h.2]
  simp(disch:=omega)[gO,aT,ga3];apply Z;refine aY (t:=false) (by simp) (fun h=>by cases h) (fun _=>?_);refine zk [1,2,3,5,6,20,21,22] ?_;refine oL q45_1 fun all hall _ Z=>?_;have ga3:aQ all 3=some 48:=hall 3;have ga7:aQ all 7=some 52:=hall 7;refine zs 4 fun _ Y=>?_;simp(disch:=omega)[gO,aT,ga3,ga7];apply Y;refine zb 48 ?_ ?_<;>intro g7<;>try simp at g7
  .exact absurd g7 g2
  refine zs 4 fun _ Y=>?_;simp(disch:=omega)[gO,aT,ga3,ga7];apply Y;simp(disch:=omega)[gO,aT,ga3,ga7];apply Z;refine aY (t:=false) (by simp) (fun h=>by cases h) (fun _=>?_);refine zk [1,2,3,5,6,20,21,22] ?_;refine zt q45_1 fun _ _ Z=>?_;refine zs 4 fun _ Y=>?_;simp(disch:=omega)[gO,aT];refine⟨by first | rfl | exact⟨rfl,rfl⟩ | trivial,_,ks.map jO,⟨rfl,hdl2,by simp,tU ks,by rw [nJ];exact cU _ _,by simp;omega,by simp [maxLen];omega⟩,?_⟩;and_intros<;>(try omega);apply Y;simp(disch:=omega)[gO,aT];apply Z;apply iV;apply zB;refine zk [1,2,3,6,20,21,22] ?_;refine zt q45_1 fun _ _ Z=>?_;simp(disch:=omega)[gO,aT];and_intros<;>(try omega);apply Z;refine cQ (j+1) ?_ ?_ (aU rfl ?_ (by simp) (by simp [mM]))
  .omega
  .try dsimp only
   omega
  simp(disch:=omega)[gO,aT,hnx]
 obtain rfl:j=v.kids.length:=by omega
 apply zE;refine zr q45_1 fun _ _ Z=>?_;simp(disch:=omega)[gO,aT];apply Z;refine Cg 0 13 (σ.length+v.kids.length) ks.length cap 14 _ _ (ks.map jO) rfl rfl (by simp [gO]) (by decide) hdl2 (by simp) (tU _) (by rw [nJ];exact cU _ _) ?_;simp only [bN,bK];refine zr q45_1 fun _ _ Z=>?_;simp(disch:=omega)[gO,aT];apply Z;apply aE;simp [aP];rw [lL,<- hks,aJ4,lL];simp
theorem Vt(N:Nat)(v:VN):Sc N (jN v):=Sc.agg fun d hd=>by
 simp only [gA,lF,lC] at hd;rcases hd with rfl | rfl | rfl | rfl | rfl | rfl | rfl | rfl | rfl | rfl | rfl | rfl | rfl | rfl
 .exact Sc.v _
 .exact Sc.v _
 .exact Sc.v _
 .exact Sc.v _
 .exact Sc.sl (Sc.map fun a=>Kd _ a)
 .exact Sc.sl (Sc.map fun a=>Lw _ a)
 .exact Sc.sl (Sc.map fun a=>Ka _ a)
 .exact Sc.v _
 .exact Sc.v _
 .exact Sc.v _
 .exact Sc.v _
 .exact Sc.v _
 .exact Sc.v _
 refine Sc.sl fun d hd=>?_;obtain⟨k,hk,e⟩:=bW.1 hd;rw [<- e,Kk];exact Vt N k
termination_by SizeOf.sizeOf v
decreasing_by
 have h:=iQ hk;cases v;simp at h |-;omega
theorem iH {k:VN} (h:k∈v.kids):fG k+1<=fG v:=by
 rw [nS v];have:∀l:List VN,k∈l->fG k<=(l.map fG).sum:=by
  intro l;induction l with
  | nil=>intro h;cases h
  | cons a l ih=>
   intro h;simp only [eW,pO];rcases gA.1 h with rfl | h
   .omega
   have:=ih h;omega
 have:=this v.kids h;omega
theorem Oj(v:VN):v.kids.length+1<=fG v:=by
 rw [nS v];have:∀l:List VN,l.length<=(l.map fG).sum:=by
  intro l;induction l with
  | nil=>simp
  | cons a l ih=>
   have:=nS a;simp only [eW,pO,cI];omega
 have:=this v.kids;omega
theorem VG.f (h:VG v):VF v:=by cases h;assumption
theorem VG.k (h:VG v):∀k∈v.kids,VG k:=by cases h;assumption
theorem VG.sz (h:VG v)(hc:fG v<=9999):VSz v:=by
 obtain⟨a,b,c,d, -⟩:=h.f;have:=Oj v;exact⟨by omega,by omega,by omega,by omega,fun k hk=>by have:=(h.k k hk).f.2.2.2.1;omega⟩
theorem Lu(v:VN)(h:VG v)(hc:fG v<=9999):aMu v:=fun σ=>
 have h1:Ct prog 79 [jN v] σ (fun r σ'=>r=jN (eR v)/\∃J,σ'=σ++J):=(aGz v σ (h.sz hc) fun k hk=>Lu k (h.k k hk) (by have:=iH hk;omega)).strip fun r σ' h=>⟨h.1.1,h.1.2,h.2⟩
 h1.trim fun r σ' ⟨hr,J,hs⟩=>⟨σ,J,hs,rfl,by rw [hr];exact Vt _ _,fun n cs h=> .inl h,hr,rfl⟩
termination_by fG v
decreasing_by
 have:=iH hk;omega
def qF(v:VN)(j:Nat):List VN:=((v.kids.take j).filter jB).map eR
theorem aJz(v:VN):qF v 0= []:=rfl
theorem Ii(v:VN)(j:Nat):(qF v j).length<=j:=by
 unfold qF;rw [cG];have:=gE jB (v.kids.take j);simp only [bF] at this;omega
theorem Rw {j:Nat} (h:j<v.kids.length)(hk:jB v.kids[j]=false):qF v (j+1)=qF v j:=by
 unfold qF;rw [bB _ _ h,cT,Ab (by simp [hk]),lU,iC]
theorem Fu {j:Nat} (h:j<v.kids.length)(hk:jB v.kids[j]=true):qF v (j+1)=qF v j++ [eR v.kids[j]]:=by
 unfold qF;rw [bB _ _ h,cT,zZ hk,lU,cX];rfl
theorem Yt(v:VN):gZ (qF v v.kids.length)=(eR v).kids:=by
 rw [lL];unfold qF;rw [dY,vM];congr 2;exact kC fun x _=>(Zx x).symm
theorem Ju(l:List VN):(gZ l).length<=l.length:=by
 have:∀(l o:List VN),(l.foldl mS o).length<=o.length+l.length:=by
  intro l;induction l with
  | nil=>intro o;simp
  | cons a l ih=>
   intro o;have h1:=ih (mS o a);have h2:=Hy o a;simp only [eI,cI];omega
 have:=this l [];simpa [gZ] using this
theorem aAu {o q:List VN} {k:VN} (hq:mS o k=q):∃h:0<q.length,q[q.length - 1].kind=k.kind:=by
 by_cases h:0<o.length
 .by_cases h1:o[o.length - 1].kind=1/\k.kind=1
  .rw [xD h h1.1 h1.2] at hq;subst hq;refine⟨by simpa using h,?_⟩;simp [txt,h1.1,h1.2]
  rw [lW fun _=>h1] at hq;subst hq;exact⟨by simp,by simp⟩
 rw [lW fun h'=>absurd h' h] at hq;subst hq;exact⟨by simp,by simp⟩
theorem mX {i:Nat} (h:i<l.length):gZ (l.take (i+1))=mS (gZ (l.take i)) l[i]:=by
 rw [bB l i h,uC]
theorem Fi {o:List VN} {i:Nat} (ho:gZ (l.take i)=o)(hi:0<i)(h:i<=l.length):∃h':0<o.length,o[o.length - 1].kind=(l[i - 1]'(by omega)).kind:=by
 obtain⟨n,rfl⟩:∃n,i=n+1:=⟨i - 1,by omega⟩;rw [mX (by omega)] at ho;exact aAu ho
theorem Bl {B:Nat} (h:∀k∈l,k.text.size<=B):∀j,j<=l.length->∀k∈gZ (l.take j),k.text.size<=j * B
 | 0,_=>fun k hk=>by simp [gZ] at hk
 | j+1,hj=>fun k hk=>by
  have eB:(j+1) * B=j * B+B:=pQ j B;rw [mX (by omega)] at hk;rw [eB];exact Hg (Bl h j (by omega)) (h _ (bS _)) k hk
abbrev aMe(v:VN):Prop:=∀σ:List (List D),Ct prog 68 [jN v] σ (fun r σ'=>r=jN (eR v)/\σ'=σ)
@[simp] abbrev q45_2:Cfg:=⟨[3,6,37,79],[],[],[69,71,77,82],[]⟩
theorem aBf(v:VN)(σ:List (List D))(h:VSz v)(ih:∀k∈v.kids,aMe k):Ct prog 68 [jN v] σ (fun r σ'=>(r.plain=true/\r.strip=jN (eR v))/\∃J,σ'=σ++J):=by
 refine zf func68 ?_;obtain⟨h1,h2,h3,h4,h5⟩:=h;refine zr q45_2 fun _ _ Z=>?_;simp(disch:=omega)[gO,aT];apply Z;refine zr q45_2 fun _ _ Z=>?_;refine zs 2 fun _ Y=>?_;simp(disch:=omega)[gO,aT];apply Y;refine aG fun _ Y=>?_;simp(disch:=omega)[gO,aT];refine dX (Xv v.classes _ (by omega)) ?_;apply Y;simp(disch:=omega)[gO,aT];apply Z;refine zr q45_2 fun _ _ Z=>?_;refine zs 2 fun _ Y=>?_;simp(disch:=omega)[gO,aT];apply Y;refine aG fun _ Y=>?_;simp(disch:=omega)[gO,aT];refine dX (Xh v.attrs _ (by omega)) ?_;apply Y;simp(disch:=omega)[gO,aT];apply Z;refine zr q45_2 fun _ _ Z=>?_;refine zs 2 fun _ Y=>?_;simp(disch:=omega)[gO,aT];apply Y;refine aG fun _ Y=>?_;simp(disch:=omega)[gO,aT];refine dX (aEw v.styles _ (by omega)) ?_;apply Y;simp(disch:=omega)[gO,aT];apply Z;refine zk [1,2] ?_;refine zr q45_2 fun _ _ Z=>?_;simp(disch:=omega)[gO,aT];and_intros<;>(try omega);apply Z;apply aF;refine zr q45_2 fun _ _ Z=>?_;simp(disch:=omega)[gO,aT];and_intros<;>(try omega);apply Z;apply aN;refine zk [1,2,3,23,24,25] ?_;refine bA (fun(j:Nat)=> [(25,.d (.v (.int .i64 (j:Int)))),(3,.d (.sl true ((qF v j).map jO)))]) [3,5,25,26,27,28,29,30,31,32,33,34,35,36,37,38,39,40,41,42] (fun(j:Nat)=>j<=v.kids.length) (fun(j:Nat)=>v.kids.length - j) (0) (by simp <;> rfl) ?_ ?_ ?_
 .simp [aJz]
 .simp
 rintro j hj;simp only [aM,aK];have hnl:=Ii v j;refine zr q45_2 fun _ _ Z=>?_;simp(disch:=omega)[gO,aT];apply Z;apply aF;refine zI ?_ ?_<;>intro c1<;>try simp at c1
 .apply kL;refine zr q45_2 fun _ _ Z=>?_;simp(disch:=omega)[gO,aT];and_intros<;>(try omega);apply Z;refine oL q45_2 fun all hall _ Z=>?_;have ga3:aQ all 3=some 32:=hall 3;refine zs 4 fun _ Y=>?_;simp(disch:=omega)[gO,aT,ga3];apply Y;refine zb 32 ?_ ?_<;>intro g2<;>try simp at g2
  .have hnx:=Fu (v:=v) c1 (by simp [jB,g2]);simp(disch:=omega)[gO,aT,ga3];apply Z;refine aY (t:=true) (by simp) (fun _=>?_) (fun h=>by cases h);refine zk [1,2,3,5,23,24,25] ?_;refine zt q45_2 fun _ _ Z=>?_;refine zs 2 fun _ Y=>?_;simp(disch:=omega)[gO,aT];apply Y;refine aG fun _ Y=>?_;simp(disch:=omega)[gO,aT];refine dX (ih v.kids[j] (bS _) _) ?_;apply Y;simp(disch:=omega)[gO,aT];and_intros<;>(try omega);apply Z;apply zB;refine zk [1,2,3,23,24,25] ?_;refine zt q45_2 fun _ _ Z=>?_;simp(disch:=omega)[gO,aT];and_intros<;>(try omega);apply Z;refine zq (j+1) ?_ ?_ ?_
   .omega
   .try dsimp only
    omega
   simp(disch:=omega)[gO,aT,hnx]
  simp(disch:=omega)[gO,aT,ga3];apply Z;refine zI ?_ ?_<;>intro c3<;>try simp at c3
  .have hnx:=Fu (v:=v) c1 (by simp [jB,c3]);refine zk [1,2,3,5,23,24,25] ?_;refine zt q45_2 fun _ _ Z=>?_;refine zs 2 fun _ Y=>?_;simp(disch:=omega)[gO,aT];apply Y;refine aG fun _ Y=>?_;simp(disch:=omega)[gO,aT];refine dX (ih v.kids[j] (bS _) _) ?_;apply Y;simp(disch:=omega)[gO,aT];and_intros<;>(try omega);apply Z;apply zB;refine zk [1,2,3,23,24,25] ?_;refine zt q45_2 fun _ _ Z=>?_;simp(disch:=omega)[gO,aT];and_intros<;>(try omega);apply Z;refine zq (j+1) ?_ ?_ ?_
   .omega
   .try dsimp only
    omega
   simp(disch:=omega)[gO,aT,hnx]
  have hnx:=Rw (v:=v) c1 (by simp [jB,g2,c3]);apply lP;refine zk [1,2,3,23,24,25] ?_;refine zt q45_2 fun _ _ Z=>?_;simp(disch:=omega)[gO,aT];and_intros<;>(try omega);apply Z;refine zq (j+1) ?_ ?_ ?_
  .omega
  .try dsimp only
   omega
  simp(disch:=omega)[gO,aT,hnx]
 obtain rfl:j=v.kids.length:=by omega
 have hl1:=Ii v v.kids.length;have htx:∀k∈qF v v.kids.length,k.text.size<=9999:=fun k hk=>by
  unfold qF at hk;obtain⟨a,ha,rfl⟩:=bW.1 hk;rw [qA];exact h5 a (mW (iP.1 ha).1)
 have hal:=Yt v;obtain⟨l,hl⟩:∃l,qF v v.kids.length=l:=⟨_,rfl⟩;rw [hl] at hl1 htx hal |-;apply zE;refine zr q45_2 fun _ _ Z=>?_;simp(disch:=omega)[gO,aT];and_intros<;>(try omega);apply Z;apply aF;refine zr q45_2 fun _ _ Z=>?_;simp(disch:=omega)[gO,aT];and_intros<;>(try omega);apply Z;apply aN;refine zk [1,2,3,6,44,45,46] ?_;refine yE 6 14 (by simp <;> rfl) ?_;refine oY (fun(i:Nat)=> [(46,.d (.v (.int .i64 (i:Int)))),(6,.d (.xs 14 ((gZ (l.take i)).map jO))),(7,.d (.any))]) (fun(i:Nat)=> [[D.int v.kind,D.str v.tag,D.str v.key,D.str v.text,.sl true ((lY v.classes).map D.str),.sl true ((jD nA v.attrs).map cH),.sl true ((jD nP v.styles).map bY),D.int v.opts.enter,D.int v.opts.leave,D.int v.opts.move,D.int v.opts.mode,D.bool v.opts.appear,D.bool v.opts.moves,.sl false (v.kids.map jO)], [D.int 0,D.str ⟨#[]⟩,D.str ⟨#[]⟩,D.str ⟨#[]⟩,.sl true [],.sl true [],.sl true [],D.int 0,D.int 0,D.int 0,D.int 0,D.bool false,D.bool false,.sl true []]]) (fun(i:Nat)=>σ++List.replicate i []) [6,7,8,46,47,48,49,50,51,52,53,54,55,56,57,58,59,60,61,62,63,64,65,66,67,68,69,70,71,72,73,74,75,76,77,78,79,80,81,82,83] (fun(i:Nat)=>i<=l.length) (fun(i:Nat)=>l.length - i) (0) (by simp <;> rfl) ?_ (by simp) (by simp) ?_ ?_
 .simp [gZ]
 .simp
 rintro i hi;simp only [aM,aK];have hnl:=Ju (l.take i);rw [bF] at hnl;obtain⟨ks,hks⟩:∃ks,gZ (l.take i)=ks:=⟨_,rfl⟩;rw [hks] at hnl |-;refine kV 6 14 (by simp <;> rfl) (by decide) fun cap rest hcap hcm hrest hk0 hes=>?_;simp only [cG] at hcap hrest |-;rw [nJ];have hrl:rest.length=(cap - ks.length) * 14:=by rw [hrest,cY]
 clear hrest;have hdl:ks.length * 14+rest.length=cap * 14:=by omega
 have hdl2:(ks.flatMap cV++rest).length=cap * 14:=by rw [bC,Ih];exact hdl
 simp only [bC,cY,bU];refine zr q45_2 fun _ _ Z=>?_;simp(disch:=omega)[gO,aT];apply Z;apply aF;refine zI ?_ ?_<;>intro c4<;>try simp at c4
 .apply kL;refine zr q45_2 fun _ _ Z=>?_;simp(disch:=omega)[gO,aT];and_intros<;>(try omega);apply Z;refine zk [1,2,3,6,7,8,44,45,46] ?_;refine oL q45_2 fun all hall _ Z=>?_;have ga2:aQ all 2=some 53:=hall 2;have ga7:aQ all 7=some 58:=hall 7;refine zs 3 fun _ Y=>?_;simp(disch:=omega)[gO,aT,ga2,ga7];apply Y;refine zb 53 ?_ ?_<;>intro g5<;>try simp at g5
  .refine zs 5 fun _ Y=>?_;simp(disch:=omega)[gO,aT,ga2,ga7];apply Y;refine zb 58 ?_ ?_<;>intro g6<;>try simp at g6
   .simp(disch:=omega)[gO,aT,ga2,ga7];and_intros<;>(try omega);apply Z;refine zI ?_ ?_<;>intro c7<;>try simp at c7
    .obtain⟨hk1,hkl⟩:=Fi hks g5 hi;rw [c7] at hkl;obtain⟨hr0,hr3⟩:=aQz ks rest hk1;have hnx:gZ (l.take (i+1))=ks.set (ks.length - 1) (txt ks[ks.length - 1] (ks[ks.length - 1].text++l[i].text)):=by rw [mX c4,hks,xD hk1 hkl g6]
     have hsz:ks[ks.length - 1].text.size+l[i].text.size<=9223372036854775807:=by
      have ha:=Bl htx i hi;rw [hks] at ha;have hj9:i * 9999<=9999 * 9999:=eS _ (by omega);have ha:=ha _ (bS (by omega:ks.length - 1<ks.length));have hb:=htx l[i] (bS _);omega
     have hwr:=aQl ks rest hk1 (ks[ks.length - 1].text++l[i].text);refine zk [1,2,3,6,7,8,44,45,46] ?_;refine ze q45_2 [.op {},.op {},.op {},.op {},.op {},.op {},.op {rO:=true},.op {},.op {rL:=true},.op {},.op {},.op {},.op {rO:=true,wO:=true}] fun all hall _ Z=>?_;refine iK 8 fun _ Y=>?_;simp(disch:=omega)[gO,aT,hr3,hwr];and_intros<;>(try omega);apply Y;simp(disch:=omega)[gO,aT,hr3,hwr];and_intros<;>(try omega);apply Z;apply zB;refine eY 6 14 (σ.length+i) ks.length cap ((ks.set (ks.length - 1) (txt ks[ks.length - 1] (ks[ks.length - 1].text++l[i].text))).map jO) ((ks.set (ks.length - 1) (txt ks[ks.length - 1] (ks[ks.length - 1].text++l[i].text))).flatMap cV++rest) (by simp <;> rfl) (by simp [gO]) (by decide) (by simp only [bC,Ih,dS];omega) (by simp) (tU _) (by rw [nJ];exact cU _ _) ?_;refine zk [1,2,3,6,7,44,45,46] ?_;refine zt q45_2 fun _ _ Z=>?_;simp(disch:=omega)[gO,aT,hr3,hwr];and_intros<;>(try omega);apply Z;refine cQ (i+1) ?_ ?_ (aU rfl ?_ (by simp) (by simp [mM]))
     .omega
     .try dsimp only
      omega
     simp(disch:=omega)[gO,aT,hnx,hr3,hwr]
    obtain⟨hk1,hkl⟩:=Fi hks g5 hi;have hnx:gZ (l.take (i+1))=ks++ [l[i]]:=by rw [mX c4,hks,lW fun _ h=>c7 (by rw [<- hkl];exact h.1)]
    refine zk [1,2,3,6,7,8,44,45,46] ?_;refine zt q45_2 fun _ _ Z=>?_;refine zs 4 fun _ Y=>?_;simp(disch:=omega)[gO,aT];refine⟨by first | rfl | exact⟨rfl,rfl⟩ | trivial,_,ks.map jO,⟨rfl,hdl2,by simp,tU ks,by rw [nJ];exact cU _ _,by simp;omega,by simp [maxLen];omega⟩,?_⟩;and_intros<;>(try omega);apply Y;simp(disch:=omega)[gO,aT];apply Z;apply zB;refine zk [1,2,3,6,7,44,45,46] ?_;refine zt q45_2 fun _ _ Z=>?_;simp(disch:=omega)[gO,aT];and_intros<;>(try omega);apply Z;refine cQ (i+1) ?_ ?_ (aU rfl ?_ (by simp) (by simp [mM]))
    .omega
    .try dsimp only
     omega
    simp(disch:=omega)[gO,aT,hnx]
   have hnx:gZ (l.take (i+1))=ks++ [l[i]]:=by rw [mX c4,hks,lW fun _ h=>g6 h.2]
   simp(disch:=omega)[gO,aT,ga2,ga7];apply Z;refine aY (t:=false) (by simp) (fun h=>by cases h) (fun _=>?_);refine zk [1,2,3,6,7,8,44,45,46] ?_;refine zt q45_2 fun _ _ Z=>?_;refine zs 4 fun _ Y=>?_;simp(disch:=omega)[gO,aT];refine⟨by first | rfl | exact⟨rfl,rfl⟩ | trivial,_,ks.map jO,⟨rfl,hdl2,by simp,tU ks,by rw [nJ];exact cU _ _,by simp;omega,by simp [maxLen];omega⟩,?_⟩;and_intros<;>(try omega);apply Y;simp(disch:=omega)[gO,aT];apply Z;apply zB;refine zk [1,2,3,6,7,44,45,46] ?_;refine zt q45_2 fun _ _ Z=>?_;simp(disch:=omega)[gO,aT];and_intros<;>(try omega);apply Z;refine cQ (i+1) ?_ ?_ (aU rfl ?_ (by simp) (by simp [mM]))
   .omega
   .try dsimp only
    omega
   simp(disch:=omega)[gO,aT,hnx]
  obtain rfl:i=0:=by omega
  have hnx:gZ (l.take (0+1))=ks++ [l[0]]:=by rw [mX c4,hks,lW fun h _=>absurd h (by omega)]
  refine zs 5 fun _ Y=>?_;simp(disch:=omega)[gO,aT,ga2,ga7];apply Y;simp(disch:=omega)[gO,aT,ga2,ga7];apply Z;refine aY (t:=false) (by simp) (fun h=>by cases h) (fun _=>?_);refine zk [1,2,3,6,7,8,44,45,46] ?_;refine zt q45_2 fun _ _ Z=>?_;refine zs 4 fun _ Y=>?_;simp(disch:=omega)[gO,aT];refine⟨by first | rfl | exact⟨rfl,rfl⟩ | trivial,_,ks.map jO,⟨rfl,hdl2,by simp,tU ks,by rw [nJ];exact cU _ _,by simp;omega,by simp [maxLen];omega⟩,?_⟩;and_intros<;>(try omega);apply Y;simp(disch:=omega)[gO,aT];apply Z;apply zB;refine zk [1,2,3,6,7,44,45,46] ?_;refine zt q45_2 fun _ _ Z=>?_;simp(disch:=omega)[gO,aT];and_intros<;>(try omega);apply Z;refine cQ (0+1) ?_ ?_ (aU rfl ?_ (by simp) (by simp [mM]))
  .omega
  .try dsimp only
   omega
  simp(disch:=omega)[gO,aT,hnx]
 obtain rfl:i=l.length:=by omega
 apply zE;refine zr q45_2 fun _ _ Z=>?_;simp(disch:=omega)[gO,aT];apply Z;refine Cg 0 13 (σ.length+l.length) ks.length cap 14 _ _ (ks.map jO) rfl rfl (by simp [gO]) (by decide) hdl2 (by simp) (tU _) (by rw [nJ];exact cU _ _) ?_;simp only [bN,bK];refine zr q45_2 fun _ _ Z=>?_;simp(disch:=omega)[gO,aT];apply Z;apply aE;rw [dY,hal] at hks;simp [aP];rw [<- hks,lL];simp
theorem Np(v:VN)(h:VG v)(hc:fG v<=9999):aMe v:=fun σ=>
 have h1:Ct prog 68 [jN v] σ (fun r σ'=>r=jN (eR v)/\∃J,σ'=σ++J):=(aBf v σ (h.sz hc) fun k hk=>Np k (h.k k hk) (by have:=iH hk;omega)).strip fun r σ' h=>⟨h.1.1,h.1.2,h.2⟩
 h1.trim fun r σ' ⟨hr,J,hs⟩=>⟨σ,J,hs,rfl,by rw [hr];exact Vt _ _,fun n cs h=> .inl h,hr,rfl⟩
termination_by fG v
decreasing_by
 have:=iH hk;omega
end Go.Proofs.YtbdjepeabjangaaGreat
