import Derived.Test.YtbdjepeabjangaaGreatWkVi2
set_option linter.all false
set_option maxRecDepth 20000
set_option maxHeartbeats 8000000
open Go.Proofs.Tryz
namespace Go.Proofs.YtbdjepeabjangaaGreat
open Go Go.Vm
variable {v:VN}
theorem Au(l:List PI)(σ:List (List D))(hl:l.length<=999999):Ct prog 50 [.sl false (l.map bV)] σ (fun r σ'=>r= .sl false ((oX nP l).map bV)/\σ'=σ):=(Pv l σ hl).freeze fun r σ' h=>h
theorem Im(l:List AT)(σ:List (List D))(hl:l.length<=999999):Ct prog 88 [.sl false (l.map cD)] σ (fun r σ'=>r= .sl false ((oX nA l).map cD)/\σ'=σ):=(Hj l σ hl).freeze fun r σ' h=>h
theorem mZ(σ:List (List D))(k:Nat)(c:List D):(σ++(List.replicate k []++ [c]))[σ.length+k]?=some c:=by
 rw [bI (by omega),bI (by simp)];simp
theorem cI(σ:List (List D))(k:Nat)(c x:List D):(σ++(List.replicate k []++ [c])).set (σ.length+k) x=σ++(List.replicate k []++ [x]):=by
 rw [jF _ _ (by omega),jF _ _ (by simp)];simp
theorem rT(k:Nat):List.replicate k ([]:List D)++ [[]]=List.replicate (k+1) []:=(List.replicate_succ' ..).symm
abbrev VSz(v:VN):Prop:=v.classes.length<=9999/\v.attrs.length<=9999/\v.styles.length<=9999/\v.kids.length<=9999/\∀k∈v.kids,k.text.size<=9999
abbrev aHn(v:VN):Prop:=∀σ:List (List D),Ct prog 79 [kM v] σ (fun r σ'=>r=kM (gG v)/\σ'=σ)
theorem aN7(ks:List VN)(rest:List D)(h:0<ks.length):(∀h',(ks.flatMap cV++rest)[(ks.length - 1) * 14]'h'=D.int ks[ks.length - 1].kind)/\∀h',(ks.flatMap cV++rest)[(ks.length - 1) * 14+3]'h'=D.str ks[ks.length - 1].text:=by
 refine⟨fun h'=>?_,fun h'=>?_⟩
 .have:=aH4 ks rest (ks.length - 1) 0 (by omega) (by decide);rw [iJ,aN h'] at this;simpa [cV] using this
 have:=aH4 ks rest (ks.length - 1) 3 (by omega) (by decide);rw [aN h'] at this;simpa [cV] using this
theorem aNs(ks:List VN)(rest:List D)(h:0<ks.length)(s:ByteArray):List.take ((ks.length - 1) * 14+3) (ks.flatMap cV++rest)++D.str s::List.drop ((ks.length - 1) * 14+3+1) (ks.flatMap cV++rest)=(ks.set (ks.length - 1) (txt ks[ks.length - 1] s)).flatMap cV++rest:=by
 rw [<- aLz ks rest (ks.length - 1) s (by omega),Dy,aR];rw [aX,Qm];omega
@[simp] abbrev q45_1:Cfg:=⟨[3,31],[],[],[29,55,62,68,34],[]⟩
theorem Zz (v : VN) (σ : List (List D)) (h : VSz v) (ih : ∀ k ∈ v.kids, aHn k) : Ct prog 79 [kM v] σ (fun r σ' => (r.plain = true /\ r.strip = kM (gG v)) /\ ∃ J, σ' = σ ++ J) := by
 refine zf func79 ?_;obtain⟨h1,h2,h3,h4,h5⟩:=h;refine zr q45_1 fun _ _ Z=>?_;simp(disch:=omega)[mZ,cI];apply Z;refine zd q45_1 [.op {},.op {rL:=true},.pure,.op {},.op {rL:=true},.pure,.op {},.op {rL:=true},.pure,.op {},.op {rL:=true,wL:=true},.op {},.op {rL:=true,wL:=true},.op {},.op {rL:=true,wL:=true}] fun all hall _ Z=>?_;refine kY 2 fun _ Y=>?_;simp(disch:=omega)[mZ,cI];apply Y;refine bJ fun _ Y=>?_;simp(disch:=omega)[mZ,cI];refine rG (fun _=>(aC8 v.classes _ (by omega))) ?_;apply Y;refine kY 2 fun _ Y=>?_;simp(disch:=omega)[mZ,cI];apply Y;refine bJ fun _ Y=>?_;simp(disch:=omega)[mZ,cI];refine rG (fun _=>(Im v.attrs _ (by omega))) ?_;apply Y;refine kY 2 fun _ Y=>?_;simp(disch:=omega)[mZ,cI];apply Y;refine bJ fun _ Y=>?_;simp(disch:=omega)[mZ,cI];refine rG (fun _=>(Au v.styles _ (by omega))) ?_;apply Y;simp(disch:=omega)[mZ,cI];apply Z;refine zk [1,2] ?_;refine zr q45_1 fun _ _ Z=>?_;simp(disch:=omega)[mZ,cI];apply Z;apply aE;refine zr q45_1 fun _ _ Z=>?_;simp(disch:=omega)[mZ,cI];and_intros<;>(try omega);apply Z;apply aQ;refine zk [1,2,3,20,21,22] ?_;refine Bm 3 14 (by simp <;> rfl) ?_;refine qD (fun(j:Nat)=> [(22,.d (.v (.int .i64 (j:Int)))),(3,.d (.xs 14 ((Dc v j).map kJ))),(6,.d (.any))]) (fun(j:Nat)=> [[D.int v.kind,D.str v.tag,D.str v.key,D.str v.text,.sl true ((oD v.classes).map D.str),.sl false ((oX nA v.attrs).map cD),.sl false ((oX nP v.styles).map bV),D.int v.opts.enter,D.int v.opts.leave,D.int v.opts.move,D.int v.opts.mode,D.bool v.opts.appear,D.bool v.opts.moves,.sl false (v.kids.map kJ)], [D.int 0,D.str ⟨#[]⟩,D.str ⟨#[]⟩,D.str ⟨#[]⟩,.sl true [],.sl true [],.sl true [],D.int 0,D.int 0,D.int 0,D.int 0,D.bool false,D.bool false,.sl true []]]) (fun(j:Nat)=>σ++List.replicate j []) [3,5,6,22,23,24,25,26,27,28,29,30,31,32,33,34,35,36,37,38,39,40,41,42,43,44,45,46,47,48,49,50,51,52,53,54,55,56,57,58,59,60,61,62,63,64,65,66,67,68,69,70] (fun(j:Nat)=>j<=v.kids.length) (fun(j:Nat)=>v.kids.length - j) (0) (by simp <;> rfl) ?_ (by simp) (by simp) ?_ ?_
 .simp [aCv]
 .simp
 rintro j hj;simp only [aO,aK];have hnl:=Ar v j;obtain⟨ks,hks⟩:∃ks,Dc v j=ks:=⟨_,rfl⟩;rw [hks] at hnl |-;refine kQ 3 14 (by simp <;> rfl) (by decide) fun cap rest hcap hcm hrest hk0 hes=>?_;simp only [cC] at hcap hrest |-;rw [uR];have hrl:rest.length=(cap - ks.length) * 14:=by rw [hrest,cW]
 clear hrest;have hdl:ks.length * 14+rest.length=cap * 14:=by omega
 have hdl2:(ks.flatMap cV++rest).length=cap * 14:=by rw [aX,Qm];exact hdl
 simp only [aX,cW,bN];refine zr q45_1 fun _ _ Z=>?_;simp(disch:=omega)[mZ,cI];apply Z;apply aE;refine zI ?_ ?_<;>intro c1<;>try simp at c1
 .apply mT;refine zr q45_1 fun _ _ Z=>?_;simp (disch:=omega)[mZ,cI];and_intros<;>(try omega);apply Z;refine zr q45_1 fun _ _ Z=>?_;refine zs 1 fun _ Y=>?_;simp (disch:=omega)[mZ,cI];apply Y;refine aD fun _ Y=>?_;simp (disch:=omega)[mZ,cI];refine eH (ih v.kids[j] (cR _) _) ?_;obtain ⟨q, hq⟩ : ∃ q, gG v.kids[j] = q := ⟨_, rfl⟩;rw [hq];apply Y;simp (disch:=omega)[mZ,cI];apply Z;refine zk [1,2,3,5,6,20,21,22] ?_;refine zr q45_1 fun _ _ Z=>?_;simp (disch:=omega)[mZ,cI];and_intros<;>(try omega);apply Z;apply aQ;refine zk [1,2,3,5,6,20,21,22] ?_;refine vJ q45_1 fun all hall _ Z=>?_;have ga3 : aY all 3 = some 39 := hall 3;refine zs 4 fun _ Y=>?_;simp (disch:=omega)[mZ,cI,ga3];apply Y;refine zb 39 ?_ ?_<;>intro g2<;>try simp at g2
  .simp (disch:=omega)[mZ,cI,ga3];apply Z;refine zI ?_ ?_<;>intro c3<;>try simp at c3
   .have hnx:Dc v (j+1)=ks:=by rw [Lt c1 (by rw [hq];simp [lM,g2,c3]),hks]
    refine eQ 3 14 (σ.length+j) ks.length cap ((ks).map kJ) ((ks).flatMap cV++rest) (by simp <;> rfl) (by simp [mZ]) (by decide) (by simp only [aX,Qm,dR];omega) (by simp) (Fk _) (by rw [uR];exact dA _ _) ?_;apply jM;apply iP;apply zB;refine zk [1,2,3,6,20,21,22] ?_;refine zt q45_1 fun _ _ Z=>?_;simp(disch:=omega)[mZ,cI];and_intros<;>(try omega);apply Z;refine eL (j+1) ?_ ?_ (bT rfl ?_ (by simp) (by simp [rT]))
    .omega
    .try dsimp only
     omega
    simp(disch:=omega)[mZ,cI,hnx]
   refine zk [1,2,3,5,6,20,21,22] ?_;refine vJ q45_1 fun all hall _ Z=>?_;have ga3:aY all 3=some 48:=hall 3;have ga7:aY all 7=some 52:=hall 7;refine zs 4 fun _ Y=>?_;simp(disch:=omega)[mZ,cI,ga3,ga7];apply Y;refine zb 48 ?_ ?_<;>intro g4<;>try simp at g4
   .refine zs 4 fun _ Y=>?_;simp(disch:=omega)[mZ,cI,ga3,ga7];apply Y;refine zb 52 ?_ ?_<;>intro g5<;>try simp at g5
    .have hkp:lM q=true:=by simp [lM,c3]
     have hk1:0<ks.length:=by omega
     obtain⟨hr0,hr3⟩:=aN7 ks rest hk1;simp(disch:=omega)[mZ,cI,ga3,ga7,hr0,hr3];and_intros<;>(try omega);apply Z;refine zI ?_ ?_<;>intro c6<;>try simp at c6
     .have hnx:Dc v (j+1)=ks.set (ks.length - 1) (txt ks[ks.length - 1] (ks[ks.length - 1].text++q.text)):=by rw [rU c1 (by rw [hq];exact hkp),hks,hq,My hk1 c6 g2]
      have hsz:ks[ks.length - 1].text.size+q.text.size<=9223372036854775807:=by
        have ha:=Qx h5 j (by omega);rw [hks] at ha;have hj9:j * 9999<=9999 * 9999:=eN _ (by omega);have ha:=ha _ (cR (by omega:ks.length - 1<ks.length));have hb:=h5 v.kids[j] (cR _);rw [<- uW,hq] at hb;omega
      have hwr:=aNs ks rest hk1 (ks[ks.length - 1].text++q.text);refine zk [1,2,3,5,6,20,21,22] ?_;refine ze q45_1 [.op {},.op {},.op {},.op {},.op {rO:=true},.op {},.op {rL:=true},.op {},.op {},.op {},.op {rO:=true,wO:=true}] fun all hall _ Z=>?_;refine kY 8 fun _ Y=>?_;simp(disch:=omega)[mZ,cI,hr0,hr3,hwr];and_intros<;>(try omega);apply Y;simp(disch:=omega)[mZ,cI,hr0,hr3,hwr];and_intros<;>(try omega);apply Z;apply iP;apply zB;refine eQ 3 14 (σ.length+j) ks.length cap ((ks.set (ks.length - 1) (txt ks[ks.length - 1] (ks[ks.length - 1].text++q.text))).map kJ) ((ks.set (ks.length - 1) (txt ks[ks.length - 1] (ks[ks.length - 1].text++q.text))).flatMap cV++rest) (by simp <;> rfl) (by simp [mZ]) (by decide) (by simp only [aX,Qm,dR];omega) (by simp) (Fk _) (by rw [uR];exact dA _ _) ?_;refine zk [1,2,3,6,20,21,22] ?_;refine zt q45_1 fun _ _ Z=>?_;simp(disch:=omega)[mZ,cI,hr0,hr3,hwr];and_intros<;>(try omega);apply Z;refine eL (j+1) ?_ ?_ (bT rfl ?_ (by simp) (by simp [rT]))
      .omega
      .try dsimp only
       omega
      simp(disch:=omega)[mZ,cI,hnx,hr0,hr3,hwr]
     have hnx:Dc v (j+1)=ks++ [q]:=by rw [rU c1 (by rw [hq];exact hkp),hks,hq,yZ fun _ h=>c6 h.1]
     refine zk [1,2,3,5,6,20,21,22] ?_;refine zt q45_1 fun _ _ Z=>?_;refine zs 4 fun _ Y=>?_;simp(disch:=omega)[mZ,cI];refine⟨by first | rfl | exact⟨rfl,rfl⟩ | trivial,_,ks.map kJ,⟨rfl,hdl2,by simp,Fk ks,by rw [uR];exact dA _ _,by simp;omega,by simp [maxLen];omega⟩,?_⟩;and_intros<;>(try omega);apply Y;simp(disch:=omega)[mZ,cI];apply Z;apply iP;apply zB;refine zk [1,2,3,6,20,21,22] ?_;refine zt q45_1 fun _ _ Z=>?_;simp(disch:=omega)[mZ,cI];and_intros<;>(try omega);apply Z;refine eL (j+1) ?_ ?_ (bT rfl ?_ (by simp) (by simp [rT]))
     .omega
     .try dsimp only
      omega
     simp(disch:=omega)[mZ,cI,hnx]
    have hkp:lM q=true:=by simp [lM,c3]
    have hnx:Dc v (j+1)=ks++ [q]:=by rw [rU c1 (by rw [hq];exact hkp),hks,hq,yZ fun h _=>absurd h (by omega)]
    simp(disch:=omega)[mZ,cI,ga3,ga7];apply Z;refine cJ (t:=false) (by simp) (fun h=>by cases h) (fun _=>?_);refine zk [1,2,3,5,6,20,21,22] ?_;refine zt q45_1 fun _ _ Z=>?_;refine zs 4 fun _ Y=>?_;simp(disch:=omega)[mZ,cI];refine⟨by first | rfl | exact⟨rfl,rfl⟩ | trivial,_,ks.map kJ,⟨rfl,hdl2,by simp,Fk ks,by rw [uR];exact dA _ _,by simp;omega,by simp [maxLen];omega⟩,?_⟩;and_intros<;>(try omega);apply Y;simp(disch:=omega)[mZ,cI];apply Z;apply iP;apply zB;refine zk [1,2,3,6,20,21,22] ?_;refine zt q45_1 fun _ _ Z=>?_;simp(disch:=omega)[mZ,cI];and_intros<;>(try omega);apply Z;refine eL (j+1) ?_ ?_ (bT rfl ?_ (by simp) (by simp [rT]))
    .omega
    .try dsimp only
     omega
    simp(disch:=omega)[mZ,cI,hnx]
   exact absurd g2 g4
  have hnx:Dc v (j+1)=ks++ [q]:=by rw [rU c1 (by rw [hq];simp [lM,g2]),hks,hq,yZ fun _ h=>g2 h.2]
  simp(disch:=omega)[mZ,cI,ga3];apply Z;refine cJ (t:=false) (by simp) (fun h=>by cases h) (fun _=>?_);refine zk [1,2,3,5,6,20,21,22] ?_;refine vJ q45_1 fun all hall _ Z=>?_;have ga3:aY all 3=some 48:=hall 3;have ga7:aY all 7=some 52:=hall 7;refine zs 4 fun _ Y=>?_;simp(disch:=omega)[mZ,cI,ga3,ga7];apply Y;refine zb 48 ?_ ?_<;>intro g7<;>try simp at g7
  .exact absurd g7 g2
  refine zs 4 fun _ Y=>?_;simp(disch:=omega)[mZ,cI,ga3,ga7];apply Y;simp(disch:=omega)[mZ,cI,ga3,ga7];apply Z;refine cJ (t:=false) (by simp) (fun h=>by cases h) (fun _=>?_);refine zk [1,2,3,5,6,20,21,22] ?_;refine zt q45_1 fun _ _ Z=>?_;refine zs 4 fun _ Y=>?_;simp(disch:=omega)[mZ,cI];refine⟨by first | rfl | exact⟨rfl,rfl⟩ | trivial,_,ks.map kJ,⟨rfl,hdl2,by simp,Fk ks,by rw [uR];exact dA _ _,by simp;omega,by simp [maxLen];omega⟩,?_⟩;and_intros<;>(try omega);apply Y;simp(disch:=omega)[mZ,cI];apply Z;apply iP;apply zB;refine zk [1,2,3,6,20,21,22] ?_;refine zt q45_1 fun _ _ Z=>?_;simp(disch:=omega)[mZ,cI];and_intros<;>(try omega);apply Z;refine eL (j+1) ?_ ?_ (bT rfl ?_ (by simp) (by simp [rT]))
  .omega
  .try dsimp only
   omega
  simp(disch:=omega)[mZ,cI,hnx]
 obtain rfl:j=v.kids.length:=by omega
 apply zE;refine zr q45_1 fun _ _ Z=>?_;simp(disch:=omega)[mZ,cI];apply Z;refine Ma 0 13 (σ.length+v.kids.length) ks.length cap 14 _ _ (ks.map kJ) rfl rfl (by simp [mZ]) (by decide) hdl2 (by simp) (Fk _) (by rw [uR];exact dA _ _) ?_;simp only [cN,bZ];refine zr q45_1 fun _ _ Z=>?_;simp(disch:=omega)[mZ,cI];apply Z;apply aC;simp [aT];rw [oN,<- hks,aF5,oN];simp
theorem Yi(N:Nat)(v:VN):Sc N (kM v):=Sc.agg fun d hd=>by
 simp only [fQ,kA,kD] at hd;rcases hd with rfl | rfl | rfl | rfl | rfl | rfl | rfl | rfl | rfl | rfl | rfl | rfl | rfl | rfl
 .exact Sc.v _
 .exact Sc.v _
 .exact Sc.v _
 .exact Sc.v _
 .exact Sc.sl (Sc.map fun a=>Gv _ a)
 .exact Sc.sl (Sc.map fun a=>Hz _ a)
 .exact Sc.sl (Sc.map fun a=>Gp _ a)
 .exact Sc.v _
 .exact Sc.v _
 .exact Sc.v _
 .exact Sc.v _
 .exact Sc.v _
 .exact Sc.v _
 refine Sc.sl fun d hd=>?_;obtain⟨k,hk,e⟩:=bY.1 hd;rw [<- e,Gu];exact Yi N k
termination_by SizeOf.sizeOf v
decreasing_by
 have h:=iC hk;cases v;simp at h |-;omega
theorem iL {k:VN} (h:k∈v.kids):fB k+1<=fB v:=by
 rw [kZ v];have:∀l:List VN,k∈l->fB k<=(l.map fB).sum:=by
  intro l;induction l with
  | nil=>intro h;cases h
  | cons a l ih=>
   intro h;simp only [fM,nR];rcases fQ.1 h with rfl | h
   .omega
   have:=ih h;omega
 have:=this v.kids h;omega
theorem Bt(v:VN):v.kids.length+1<=fB v:=by
 rw [kZ v];have:∀l:List VN,l.length<=(l.map fB).sum:=by
  intro l;induction l with
  | nil=>simp
  | cons a l ih=>
   have:=kZ a;simp only [fM,nR,bU];omega
 have:=this v.kids;omega
theorem VG.f (h:VG v):VF v:=by cases h;assumption
theorem VG.k (h:VG v):∀k∈v.kids,VG k:=by cases h;assumption
theorem VG.sz (h:VG v)(hc:fB v<=9999):VSz v:=by
 obtain⟨a,b,c,d, -⟩:=h.f;have:=Bt v;exact⟨by omega,by omega,by omega,by omega,fun k hk=>by have:=(h.k k hk).f.2.2.2.1;omega⟩
theorem Hy(v:VN)(h:VG v)(hc:fB v<=9999):aHn v:=fun σ=>
 have h1:Ct prog 79 [kM v] σ (fun r σ'=>r=kM (gG v)/\∃J,σ'=σ++J):=(Zz v σ (h.sz hc) fun k hk=>Hy k (h.k k hk) (by have:=iL hk;omega)).strip fun r σ' h=>⟨h.1.1,h.1.2,h.2⟩
 h1.trim fun r σ' ⟨hr,J,hs⟩=>⟨σ,J,hs,rfl,by rw [hr];exact Yi _ _,fun n cs h=> .inl h,hr,rfl⟩
termination_by fB v
decreasing_by
 have:=iL hk;omega
theorem Us(l:List VN):(kN l).length<=l.length:=by
 have:∀(l o:List VN),(l.foldl mI o).length<=o.length+l.length:=by
  intro l;induction l with
  | nil=>intro o;simp
  | cons a l ih=>
   intro o;have h1:=ih (mI o a);have h2:=Fm o a;simp only [eG,bU];omega
 have:=this l [];simpa [kN] using this
theorem Od {l:List VN} {i:Nat} (h:i<l.length):kN (l.take (i+1))=mI (kN (l.take i)) l[i]:=by
 rw [bM l i h,sD]
theorem Fj {l:List VN} {B:Nat} (h:∀k∈l,k.text.size<=B):∀j,j<=l.length->∀k∈kN (l.take j),k.text.size<=j * B
 | 0,_=>fun k hk=>by simp [kN] at hk
 | j+1,hj=>fun k hk=>by
  have eB:(j+1) * B=j * B+B:=nH j B;rw [Od (by omega)] at hk;rw [eB];exact Fg (Fj h j (by omega)) (h _ (cR _)) k hk
end Go.Proofs.YtbdjepeabjangaaGreat
