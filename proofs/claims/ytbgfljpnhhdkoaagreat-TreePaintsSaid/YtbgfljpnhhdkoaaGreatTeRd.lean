import Derived.Test.YtbgfljpnhhdkoaaGreatWkTe3
import Derived.Test.YtbgfljpnhhdkoaaGreatVmX15
set_option linter.all false
set_option maxHeartbeats 8000000
set_option maxRecDepth 20000
open Go.Proofs.Tryz
namespace Go.Proofs.YtbgfljpnhhdkoaaGreat
open Go Go.Vm
variable {A:List ND}{i par:Int}{j:Nat}{n:ND}{o:OW}{v:VN}{α:Type}
theorem aB6 {nm:α->ByteArray} (p:α):∀(l:List α),(∀q∈l,cT (nm q) (nm p)=true)->eO nm l p=l++ [p]
 | [],_=>rfl
 | q::l,h=>by
  have h1:=h q fE;simp only [eO];rw [aI h1,aB6 p l fun x hx=>h x (gL _ hx)];rfl
def Kp:AT:=⟨gD,⟨#[]⟩⟩
def uC(g:Bool)(l:List AT)(k:Nat):Bool:= !g || (l.take k).any fun q=> !cT q.name gD
def wW(g:Bool)(l:List AT)(k:Nat):List AT:=if uC g l k=true/\g=true then eO nA (l.take k) Kp else l.take k
theorem aO9(g:Bool)(l:List AT)(k:Nat):(wW g l k).length<=k+1:=by
 unfold wW;have:=rK nA (l.take k) Kp;split <;> simp at * <;> omega
theorem Rq {l:List AT} {k:Nat} (hs:Sorted nA l)(h:k<l.length)(hd:(l.take k).any (fun q=> !cT q.name gD)=true):eO nA (l.take (k+1)) Kp=eO nA (l.take k) Kp++ [l[k]]:=by
 rw [bJ l k h];have hlt:∀q∈l.take k,cT q.name l[k].name=true:=fun q hq=>by
  obtain⟨i,hi,rfl⟩:=kT hq;rw [List.getElem_take];have hi2:i<k:=by simpa using(bG ▸ hi:i<min k l.length) |> fun h=>qG h (Nat.min_le_left _ _)
  exact nW.1 hs i k (by omega) h hi2
 generalize l[k]=z at hlt |-;generalize l.take k=m at hd hlt |-;induction m with
 | nil=>simp at hd
 | cons q m ih =>
  simp only [aQ,eO];by_cases h1:cT (nA q) (nA Kp)=true
  .rw [aI h1,aI h1];rw [ih (by
    simp only [List.any_cons,vG,lS] at hd;rcases hd with hd | hd
    .have:cT q.name gD=true:=h1;rw [this] at hd;cases hd
    exact hd) fun x hx=>hlt x (gL _ hx)]
   rfl
  rw [aA h1,aA h1];split <;> rfl
theorem Kd {nm:α->ByteArray} (p:α)(B:List α):∀(A:List α),(∀q∈A,cT (nm q) (nm p)=true)->eO nm (A++B) p=A++eO nm B p
 | [],_=>rfl
 | q::A,h=>by
  simp only [aQ,eO];rw [aI (h q fE),Kd p B A fun x hx=>h x (gL _ hx)]
theorem aSa(g:Bool)(l:List AT):uC g l 0= !g:=by simp [uC]
theorem aWq(g:Bool)(l:List AT):wW g l 0= []:=by
 unfold wW;rw [aSa];cases g <;> simp
theorem Es {g:Bool} {l:List AT} {k:Nat} (h:k<l.length):uC g l (k+1)=(uC g l k || !cT l[k].name gD):=by
 unfold uC;rw [bJ l k h,List.any_append];simp [Bool.or_assoc]
theorem Bu {l:List AT} {k:Nat} (h:uC true l k=false):∀q∈l.take k,cT (nA q) (nA Kp)=true:=fun q hq=>by
 simp only [uC,Bool.not_true,zR] at h;have:=nQ.1 h q hq;show cT q.name gD=true
 simpa using this
theorem Xq {l:List AT} {k:Nat} :wW false l k=l.take k:=by unfold wW;rw [aA (by simp)]
theorem xS {l:List AT} {k:Nat} (h:uC true l k=false):wW true l k=l.take k:=by unfold wW;rw [aA (by rw [h];simp)]
theorem xQ {l:List AT} {k:Nat} (h:uC true l k=true):wW true l k=eO nA (l.take k) Kp:=by unfold wW;rw [aI ⟨h,rfl⟩]
theorem aT1 {l:List AT} {k:Nat} (h:k<l.length)(hg:uC true l k=false)(hn:cT l[k].name gD=true):uC true l (k+1)=false/\wW true l (k+1)=wW true l k++ [l[k]]:=by
 have e:uC true l (k+1)=false:=by rw [Es h,hg,hn];rfl
 exact⟨e,by rw [xS e,xS hg,bJ l k h]⟩
theorem aUs {l:List AT} {k:Nat} (h:k<l.length)(hg:uC true l k=false)(hn:cT l[k].name gD=false)(hne:¬l[k].name=gD):uC true l (k+1)=true/\wW true l (k+1)=wW true l k++ [Kp]++ [l[k]]:=by
 have e:uC true l (k+1)=true:=by rw [Es h,hg,hn];rfl
 refine⟨e,?_⟩;rw [xQ e,xS hg,bJ l k h,Kd _ _ _ (Bu hg)];simp only [eO];rw [aA (by show ¬cT l[k].name gD=true;rw [hn];simp),aA (show ¬nA l[k]=nA Kp from hne)];simp
theorem aS5 {l:List AT} {k:Nat} (h:k<l.length)(hg:uC true l k=false)(hne:l[k].name=gD):uC true l (k+1)=true/\wW true l (k+1)=wW true l k++ [Kp]:=by
 have hn:cT l[k].name gD=false:=by rw [hne];exact lX _
 have e:uC true l (k+1)=true:=by rw [Es h,hg,hn];rfl
 refine⟨e,?_⟩;rw [xQ e,xS hg,bJ l k h,Kd _ _ _ (Bu hg)];simp only [eO];rw [aA (by show ¬cT l[k].name gD=true;rw [hn];simp),aI (show nA l[k]=nA Kp from hne)]
theorem aJ6 {l:List AT} {k:Nat} (hs:Sorted nA l)(h:k<l.length)(hg:uC true l k=true):uC true l (k+1)=true/\wW true l (k+1)=wW true l k++ [l[k]]/\¬l[k].name=gD:=by
 have e:uC true l (k+1)=true:=by rw [Es h,hg];rfl
 have hd:(l.take k).any (fun q=> !cT q.name gD)=true:=by simpa [uC] using hg
 refine⟨e,by rw [xQ e,xQ hg,Rq hs h hd],fun hne=>?_⟩;obtain⟨q,hq,hq2⟩:=nN.1 hd;obtain⟨i,hi,rfl⟩:=kT hq;rw [List.getElem_take] at hq2;have hi2:i<k:=by have:=bG ▸ hi;omega
 have:=nW.1 hs i k (by omega) h hi2;rw [show nA l[k]=gD from hne] at this;rw [show cT (l[i]'(by omega)).name gD=true from this] at hq2;cases hq2
theorem Wn {l:List AT} {k:Nat} (h:k<l.length):uC false l (k+1)=true/\wW false l (k+1)=wW false l k++ [l[k]]:=⟨by simp [uC],by rw [Xq,Xq,bJ l k h]⟩
theorem aBg {x:LK} (hs:Sorted nA o.attrs):(if uC (kF x) o.attrs o.attrs.length=true then wW (kF x) o.attrs o.attrs.length else wW (kF x) o.attrs o.attrs.length++ [Kp])=wT x o:=by
 unfold wT;rw [qK nA hs];cases hg:kF x with
 | false=>
  rw [aI (by simp [uC]),Xq,dX,aA (by simp)]
 | true =>
  rw [aI rfl];cases hd:uC true o.attrs o.attrs.length with
  | true=>rw [aI rfl,xQ hd,dX];rfl
  | false=>
   rw [aA (by simp),xS hd,dX];have:=aB6 (nm:=nA) Kp o.attrs (by have:=Bu hd;rwa [dX] at this);exact this.symm
theorem Ub:gD.toList= [116,45,103,104,111,115,116]:=by decide+kernel
theorem aNh(s:ByteArray):Op.bytesLess s.toList [116,45,103,104,111,115,116]=cT s gD:=by unfold cT;rw [Ub]
section
variable {g:Bool} {l:List AT} {k:Nat}
theorem aV6(hg:g=true)(h:k<l.length)(h0:uC g l k=false)(hn:Op.bytesLess l[k].name.toList [116,45,103,104,111,115,116]=true):uC g l (k+1)=false/\wW g l (k+1)=wW g l k++ [l[k]]:=by subst hg;exact aT1 h h0 (by rw [<- aNh];exact hn)
theorem aV7(hg:g=true)(h:k<l.length)(h0:uC g l k=false)(hn:Op.bytesLess l[k].name.toList [116,45,103,104,111,115,116]=false)(hne:¬l[k].name=gD):uC g l (k+1)=true/\wW g l (k+1)=wW g l k++ [Kp]++ [l[k]]:=by subst hg;exact aUs h h0 (by rw [<- aNh];exact hn) hne
theorem aWj(hg:g=true)(h:k<l.length)(h0:uC g l k=false)(hne:l[k].name=gD):uC g l (k+1)=true/\wW g l (k+1)=wW g l k++ [Kp]:=by subst hg;exact aS5 h h0 hne
theorem aCs(hg:g=true)(hs:Sorted nA l)(h:k<l.length)(h0:uC g l k=true):uC g l (k+1)=true/\wW g l (k+1)=wW g l k++ [l[k]]/\¬l[k].name=gD:=by subst hg;exact aJ6 hs h h0
theorem aVm(hg:g=false)(h:k<l.length):uC g l (k+1)=true/\wW g l (k+1)=wW g l k++ [l[k]]:=by subst hg;exact Wn h
theorem aBc(hg:g=false)(h0:uC g l k=false):False:=by subst hg;simp [uC] at h0
theorem aAl {s:ByteArray} (hn:Op.bytesLess s.toList [116,45,103,104,111,115,116]=true)(e:s=gD):False:=by
 rw [aNh,e,lX] at hn;cases hn
theorem aH8 {x:LK} (hs:Sorted nA o.attrs)(h:uC (kF x) o.attrs o.attrs.length=true):wW (kF x) o.attrs o.attrs.length=wT x o:=by rw [<- aBg hs,aI h]
theorem aMh {x:LK} (hs:Sorted nA o.attrs)(h:uC (kF x) o.attrs o.attrs.length=false):wW (kF x) o.attrs o.attrs.length++ [Kp]=wT x o:=by rw [<- aBg hs,aA (by rw [h];simp)]
theorem Xf {x:LK} (h:x.move=1):iB nP (o.styles++ [⟨mDx,x.DX⟩,⟨mDy,x.DY⟩])=wS x o:=by
 unfold wS;rw [aI h,show o.styles++ [⟨mDx,x.DX⟩,⟨mDy,x.DY⟩]=(o.styles++ [⟨mDx,x.DX⟩])++ [⟨mDy,x.DY⟩] by simp,sZ,sZ]
theorem aIf {x:LK} (h:¬x.move=1):iB nP o.styles=wS x o:=by unfold wS;rw [aA h]
end
@[simp] abbrev q5_1:Cfg:=⟨[38,52,61],[],[5],[],[]⟩
theorem aGc(x:LK)(o:OW)(σ:List (List D))(h1:o.classes.length<=9999)(h2:o.attrs.length<=9999)(h3:o.styles.length<=9999)(hs:Sorted nA o.attrs):Ct prog 35 [Ao x,vX o] σ (fun r σ'=>(r.plain=true/\r.strip=vX (jX x o))/\∃J,σ'=σ++J):=by
 refine zf func35 ?_;have hcl:=vM x;have hp:=iC nP o.styles;refine zr q5_1 fun _ _ Z=>?_;simp(disch:=omega)[aH,aG,cD];and_intros<;>(try omega)
 all_goals try (intro d hd;rcases hd with ⟨a, -,rfl⟩ | rfl <;> rfl)
 apply Z;refine zd q5_1 [.op {},.op {},.op {rL:=true},.op {},.op {rL:=true},.pure,.op {},.pure,.op {},.op {rL:=true},.op {},.op {rO:=true,wO:=true},.op {rO:=true,wO:=true}] fun all hall _ Z=>?_;refine lY 5 fun _ Y=>?_;simp(disch:=omega)[aH,aG,cD];and_intros<;>(try omega)
 all_goals try (intro d hd;rcases hd with ⟨a, -,rfl⟩ | rfl <;> rfl)
 apply Y;refine cF fun _ Y=>?_;simp(disch:=omega)[aH,aG,cD];refine Aa (fun _=>(Rd x _)) ?_;apply Y;refine lY 1 fun _ Y=>?_;simp(disch:=omega)[aH,aG,cD];and_intros<;>(try omega)
 all_goals try (intro d hd;rcases hd with ⟨a, -,rfl⟩ | rfl <;> rfl)
 apply Y;refine cF fun _ Y=>?_;simp(disch:=omega)[aH,aG,cD];refine Aa (fun _=>(Oh (o.classes++fX x) _ (by simp;omega))) ?_;apply Y;simp(disch:=omega)[aH,aG,cD];and_intros<;>(try omega)
 all_goals try (intro d hd;rcases hd with ⟨a, -,rfl⟩ | rfl <;> rfl)
 apply Z;refine zk [2,3,4,5] ?_;refine zr q5_1 fun _ _ Z=>?_;refine zs 1 fun _ Y=>?_;simp(disch:=omega)[aH,aG,cD];and_intros<;>(try omega)
 all_goals try (intro d hd;rcases hd with ⟨a, -,rfl⟩ | rfl <;> rfl)
 apply Y;refine aE fun _ Y=>?_;simp(disch:=omega)[aH,aG,cD];refine bS (iF x _) ?_;apply Y;simp(disch:=omega)[aH,aG,cD];and_intros<;>(try omega)
 all_goals try (intro d hd;rcases hd with ⟨a, -,rfl⟩ | rfl <;> rfl)
 apply Z;apply aF;refine zr q5_1 fun _ _ Z=>?_;simp(disch:=omega)[aH,aG,cD];and_intros<;>(try omega)
 all_goals try (intro d hd;rcases hd with ⟨a, -,rfl⟩ | rfl <;> rfl)
 apply Z;apply aR;refine zk [2,3,4,5,6,24,25,26] ?_;refine kS (fun(k:Nat)=> [(26,.d (.v (.int .i64 (k:Int)))),(6,.d (.bool (uC (kF x) o.attrs k)))]) (fun(k:Nat)=> []) (fun(k:Nat)=> [(σ.length, [.sl false ((bP (o.classes++fX x)).map D.str),.sl true ((wW (kF x) o.attrs k).map cY),.sl false (o.styles.map cR)])]) [6,8,26,27,28,29,30,31,32,33,34,35,36,37,38,39,40,41,42,43,44,45,46,47,48,49,50,51,52,53,54,55,56,57] (fun(k:Nat)=>k<=o.attrs.length) (fun(k:Nat)=>o.attrs.length - k) (0) (by simp <;> rfl) ?_ (by simp) (by simp [aH,aWq]) ?_ ?_
 .simp [aSa]
 .simp
 rintro k hk;simp only [aQ,aP,lL,jP,gO,gA];have hgl:=aO9 (kF x) o.attrs k;refine zr q5_1 fun _ _ Z=>?_;simp(disch:=omega)[aH,aG,cD];and_intros<;>(try omega)
 all_goals try (intro d hd;rcases hd with ⟨a, -,rfl⟩ | rfl <;> rfl)
 apply Z;apply aF;refine zI ?_ ?_<;>intro c1<;>try simp at c1
 .apply kB;refine zr q5_1 fun _ _ Z=>?_;simp(disch:=omega)[aH,aG,cD];and_intros<;>(try omega)
  all_goals try (intro d hd;rcases hd with ⟨a, -,rfl⟩ | rfl <;> rfl)
  apply Z;apply aF;refine zk [2,3,4,5,6,8,24,25,26] ?_;refine iU q5_1 fun all hall _ Z=>?_;have ga2:aK all 2=some 32:=hall 2;refine zs 3 fun _ Y=>?_;simp(disch:=omega)[aH,aG,cD,ga2];and_intros<;>(try omega)
  all_goals try (intro d hd;rcases hd with ⟨a, -,rfl⟩ | rfl <;> rfl)
  apply Y;refine zb 32 ?_ ?_<;>intro g2<;>try simp at g2
  .simp(disch:=omega)[aH,aG,cD,ga2];and_intros<;>(try omega)
   all_goals try (intro d hd;rcases hd with ⟨a, -,rfl⟩ | rfl <;> rfl)
   apply Z;refine zI ?_ ?_<;>intro c3<;>try simp at c3
   .refine zk [2,3,4,5,6,8,24,25,26] ?_;refine zr q5_1 fun _ _ Z=>?_;simp(disch:=omega)[aH,aG,cD];and_intros<;>(try omega)
    all_goals try (intro d hd;rcases hd with ⟨a, -,rfl⟩ | rfl <;> rfl)
    apply Z;refine zk [2,3,4,5,6,8,24,25,26] ?_;refine zt q5_1 fun _ _ Z=>?_;simp(disch:=omega)[aH,aG,cD];and_intros<;>(try omega)
    all_goals try (intro d hd;rcases hd with ⟨a, -,rfl⟩ | rfl <;> rfl)
    apply Z;apply bY;refine iU q5_1 fun all hall _ Z=>?_;have ga3:aK all 3=some 46:=hall 3;refine zs 1 fun _ Y=>?_;simp(disch:=omega)[aH,aG,cD,ga3];and_intros<;>(try omega)
    all_goals try (intro d hd;rcases hd with ⟨a, -,rfl⟩ | rfl <;> rfl)
    apply Y;refine aE fun _ Y=>?_;simp(disch:=omega)[aH,aG,cD,ga3];refine bS (iF x _) ?_;apply Y;refine zs 2 fun _ Y=>?_;simp(disch:=omega)[aH,aG,cD,ga3];and_intros<;>(try omega)
    all_goals try (intro d hd;rcases hd with ⟨a, -,rfl⟩ | rfl <;> rfl)
    apply Y;refine zb 46 ?_ ?_<;>intro g4<;>try simp at g4
    .exact(aBc g4 g2).elim
    simp(disch:=omega)[aH,aG,cD,ga3];and_intros<;>(try omega)
    all_goals try (intro d hd;rcases hd with ⟨a, -,rfl⟩ | rfl <;> rfl)
    apply Z;refine zI ?_ ?_<;>intro c5<;>try simp at c5
    .obtain⟨hx1,hx2⟩:=aV7 (l:=o.attrs) g4 (by omega) g2 c3 c5;refine zk [2,3,4,5,6,8,24,25,26] ?_;refine zt q5_1 fun _ _ Z=>?_;simp(disch:=omega)[aH,aG,cD];and_intros<;>(try omega)
     all_goals try (intro d hd;rcases hd with ⟨a, -,rfl⟩ | rfl <;> rfl)
     apply Z;apply zB;refine zk [2,3,4,5,6,24,25,26] ?_;refine zt q5_1 fun _ _ Z=>?_;simp(disch:=omega)[aH,aG,cD];and_intros<;>(try omega)
     all_goals try (intro d hd;rcases hd with ⟨a, -,rfl⟩ | rfl <;> rfl)
     apply Z;refine eG (k+1) ?_ ?_ (dT rfl ?_ (by simp) (by simp [hx2,Kp,gD]))
     .omega
     .try dsimp only
      omega
     simp(disch:=omega)[aH,aG,cD,hx1,g2]
    obtain⟨hx1,hx2⟩:=aWj (l:=o.attrs) g4 (by omega) g2 c5;apply nD;refine zk [2,3,4,5,6,24,25,26] ?_;refine zt q5_1 fun _ _ Z=>?_;simp(disch:=omega)[aH,aG,cD];and_intros<;>(try omega)
    all_goals try (intro d hd;rcases hd with ⟨a, -,rfl⟩ | rfl <;> rfl)
    apply Z;refine eG (k+1) ?_ ?_ (dT rfl ?_ (by simp) (by simp [hx2,Kp,gD]))
    .omega
    .try dsimp only
     omega
    simp(disch:=omega)[aH,aG,cD,hx1,g2]
   apply zA;refine zk [2,3,4,5,6,8,24,25,26] ?_;refine iU q5_1 fun all hall _ Z=>?_;have ga3:aK all 3=some 46:=hall 3;refine zs 1 fun _ Y=>?_;simp(disch:=omega)[aH,aG,cD,ga3];and_intros<;>(try omega)
   all_goals try (intro d hd;rcases hd with ⟨a, -,rfl⟩ | rfl <;> rfl)
   apply Y;refine aE fun _ Y=>?_;simp(disch:=omega)[aH,aG,cD,ga3];refine bS (iF x _) ?_;apply Y;refine zs 2 fun _ Y=>?_;simp(disch:=omega)[aH,aG,cD,ga3];and_intros<;>(try omega)
   all_goals try (intro d hd;rcases hd with ⟨a, -,rfl⟩ | rfl <;> rfl)
   apply Y;refine zb 46 ?_ ?_<;>intro g6<;>try simp at g6
   .exact(aBc g6 g2).elim
   simp(disch:=omega)[aH,aG,cD,ga3];and_intros<;>(try omega)
   all_goals try (intro d hd;rcases hd with ⟨a, -,rfl⟩ | rfl <;> rfl)
   apply Z;refine zI ?_ ?_<;>intro c7<;>try simp at c7
   .obtain⟨hx1,hx2⟩:=aV6 (l:=o.attrs) g6 (by omega) g2 c3;refine zk [2,3,4,5,6,8,24,25,26] ?_;refine zt q5_1 fun _ _ Z=>?_;simp(disch:=omega)[aH,aG,cD];and_intros<;>(try omega)
    all_goals try (intro d hd;rcases hd with ⟨a, -,rfl⟩ | rfl <;> rfl)
    apply Z;apply zB;refine zk [2,3,4,5,6,24,25,26] ?_;refine zt q5_1 fun _ _ Z=>?_;simp(disch:=omega)[aH,aG,cD];and_intros<;>(try omega)
    all_goals try (intro d hd;rcases hd with ⟨a, -,rfl⟩ | rfl <;> rfl)
    apply Z;refine eG (k+1) ?_ ?_ (dT rfl ?_ (by simp) (by simp [hx2,Kp,gD]))
    .omega
    .try dsimp only
     omega
    simp(disch:=omega)[aH,aG,cD,hx1,g2]
   exact(aAl c3 c7).elim
  simp(disch:=omega)[aH,aG,cD,ga2];and_intros<;>(try omega)
  all_goals try (intro d hd;rcases hd with ⟨a, -,rfl⟩ | rfl <;> rfl)
  apply Z;refine aV (t:=false) (by simp) (fun h=>by cases h) (fun _=>?_);apply zA;refine zk [2,3,4,5,6,8,24,25,26] ?_;refine iU q5_1 fun all hall _ Z=>?_;have ga3:aK all 3=some 46:=hall 3;refine zs 1 fun _ Y=>?_;simp(disch:=omega)[aH,aG,cD,ga3];and_intros<;>(try omega)
  all_goals try (intro d hd;rcases hd with ⟨a, -,rfl⟩ | rfl <;> rfl)
  apply Y;refine aE fun _ Y=>?_;simp(disch:=omega)[aH,aG,cD,ga3];refine bS (iF x _) ?_;apply Y;refine zs 2 fun _ Y=>?_;simp(disch:=omega)[aH,aG,cD,ga3];and_intros<;>(try omega)
  all_goals try (intro d hd;rcases hd with ⟨a, -,rfl⟩ | rfl <;> rfl)
  apply Y;refine zb 46 ?_ ?_<;>intro g8<;>try simp at g8
  .obtain⟨hx1,hx2⟩:=aVm (l:=o.attrs) (k:=k) g8 (by omega);simp(disch:=omega)[aH,aG,cD,ga3];and_intros<;>(try omega)
   all_goals try (intro d hd;rcases hd with ⟨a, -,rfl⟩ | rfl <;> rfl)
   apply Z;refine aV (t:=true) (by simp) (fun _=>?_) (fun h=>by cases h);refine zk [2,3,4,5,6,8,24,25,26] ?_;refine zt q5_1 fun _ _ Z=>?_;simp(disch:=omega)[aH,aG,cD];and_intros<;>(try omega)
   all_goals try (intro d hd;rcases hd with ⟨a, -,rfl⟩ | rfl <;> rfl)
   apply Z;apply zB;refine zk [2,3,4,5,6,24,25,26] ?_;refine zt q5_1 fun _ _ Z=>?_;simp(disch:=omega)[aH,aG,cD];and_intros<;>(try omega)
   all_goals try (intro d hd;rcases hd with ⟨a, -,rfl⟩ | rfl <;> rfl)
   apply Z;refine eG (k+1) ?_ ?_ (dT rfl ?_ (by simp) (by simp [hx2,Kp,gD]))
   .omega
   .try dsimp only
    omega
   simp(disch:=omega)[aH,aG,cD,hx1,g2]
  simp(disch:=omega)[aH,aG,cD,ga3];and_intros<;>(try omega)
  all_goals try (intro d hd;rcases hd with ⟨a, -,rfl⟩ | rfl <;> rfl)
  apply Z;refine zI ?_ ?_<;>intro c9<;>try simp at c9
  .obtain⟨hx1,hx2, -⟩:=aCs (l:=o.attrs) g8 hs (by omega) g2;refine zk [2,3,4,5,6,8,24,25,26] ?_;refine zt q5_1 fun _ _ Z=>?_;simp(disch:=omega)[aH,aG,cD];and_intros<;>(try omega)
   all_goals try (intro d hd;rcases hd with ⟨a, -,rfl⟩ | rfl <;> rfl)
   apply Z;apply zB;refine zk [2,3,4,5,6,24,25,26] ?_;refine zt q5_1 fun _ _ Z=>?_;simp(disch:=omega)[aH,aG,cD];and_intros<;>(try omega)
   all_goals try (intro d hd;rcases hd with ⟨a, -,rfl⟩ | rfl <;> rfl)
   apply Z;refine eG (k+1) ?_ ?_ (dT rfl ?_ (by simp) (by simp [hx2,Kp,gD]))
   .omega
   .try dsimp only
    omega
   simp(disch:=omega)[aH,aG,cD,hx1,g2]
  exact((aCs (l:=o.attrs) g8 hs (by omega) g2).2.2 c9).elim
 obtain rfl:k=o.attrs.length:=by omega
 apply zE;apply aF;refine zr q5_1 fun _ _ Z=>?_;simp(disch:=omega)[aH,aG,cD];and_intros<;>(try omega)
 all_goals try (intro d hd;rcases hd with ⟨a, -,rfl⟩ | rfl <;> rfl)
 apply Z;refine zI ?_ ?_<;>intro c10<;>try simp at c10
 .have hend:=aMh hs c10;refine zt q5_1 fun _ _ Z=>?_;simp(disch:=omega)[aH,aG,cD];and_intros<;>(try omega)
  all_goals try (intro d hd;rcases hd with ⟨a, -,rfl⟩ | rfl <;> rfl)
  apply Z;apply bY;apply aF;refine zk [2,3,4,5] ?_;refine zr q5_1 fun _ _ Z=>?_;simp(disch:=omega)[aH,aG,cD];and_intros<;>(try omega)
  all_goals try (intro d hd;rcases hd with ⟨a, -,rfl⟩ | rfl <;> rfl)
  apply Z;refine zI ?_ ?_<;>intro c11<;>try simp at c11
  .have hsty:=Xf (o:=o) c11;refine zk [2,3,4,5] ?_;refine ze q5_1 [.op {},.op {},.op {rL:=true},.op {},.op {},.op {rL:=true},.op {},.op {},.op {rL:=true},.op {},.op {},.op {},.op {},.op {rO:=true,wO:=true}] fun all hall _ Z=>?_;refine lY 8 fun _ Y=>?_;simp(disch:=omega)[aH,aG,cD];and_intros<;>(try omega)
   all_goals try (intro d hd;rcases hd with ⟨a, -,rfl⟩ | rfl <;> rfl)
   apply Y;simp(disch:=omega)[aH,aG,cD];and_intros<;>(try omega)
   all_goals try (intro d hd;rcases hd with ⟨a, -,rfl⟩ | rfl <;> rfl)
   apply Z;apply bY;refine zk [4,5] ?_;refine zr q5_1 fun _ _ Z=>?_;refine zs 2 fun _ Y=>?_;simp(disch:=omega)[aH,aG,cD];and_intros<;>(try omega)
   all_goals try (intro d hd;rcases hd with ⟨a, -,rfl⟩ | rfl <;> rfl)
   apply Y;refine aE fun _ Y=>?_;simp(disch:=omega)[aH,aG,cD];refine bS (yE (o.styles++ [⟨⟨#[116,45,100,120]⟩,x.DX⟩,⟨⟨#[116,45,100,121]⟩,x.DY⟩]) _ (by simp;omega)) ?_;apply Y;simp(disch:=omega)[aH,aG,cD];and_intros<;>(try omega)
   all_goals try (intro d hd;rcases hd with ⟨a, -,rfl⟩ | rfl <;> rfl)
   apply Z;refine zr q5_1 fun _ _ Z=>?_;simp(disch:=omega)[aH,aG,cD];and_intros<;>(try omega)
   all_goals try (intro d hd;rcases hd with ⟨a, -,rfl⟩ | rfl <;> rfl)
   apply Z;apply aD;simp [aJ,jX];rw [<- hend,<- hsty];simp [Kp,gD,mDx,mDy]
  have hsty:=aIf (o:=o) c11;apply zA;refine zr q5_1 fun _ _ Z=>?_;refine zs 2 fun _ Y=>?_;simp(disch:=omega)[aH,aG,cD];and_intros<;>(try omega)
  all_goals try (intro d hd;rcases hd with ⟨a, -,rfl⟩ | rfl <;> rfl)
  apply Y;refine aE fun _ Y=>?_;simp(disch:=omega)[aH,aG,cD];refine bS (yE o.styles _ (by omega)) ?_;apply Y;simp(disch:=omega)[aH,aG,cD];and_intros<;>(try omega)
  all_goals try (intro d hd;rcases hd with ⟨a, -,rfl⟩ | rfl <;> rfl)
  apply Z;refine zr q5_1 fun _ _ Z=>?_;simp(disch:=omega)[aH,aG,cD];and_intros<;>(try omega)
  all_goals try (intro d hd;rcases hd with ⟨a, -,rfl⟩ | rfl <;> rfl)
  apply Z;apply aD;simp [aJ,jX];rw [<- hend,<- hsty];simp [Kp,gD]
 have hend:=aH8 hs c10;apply zA;apply aF;refine zr q5_1 fun _ _ Z=>?_;simp(disch:=omega)[aH,aG,cD];and_intros<;>(try omega)
 all_goals try (intro d hd;rcases hd with ⟨a, -,rfl⟩ | rfl <;> rfl)
 apply Z;refine zI ?_ ?_<;>intro c12<;>try simp at c12
 .have hsty:=Xf (o:=o) c12;refine zk [2,3,4,5] ?_;refine ze q5_1 [.op {},.op {},.op {rL:=true},.op {},.op {},.op {rL:=true},.op {},.op {},.op {rL:=true},.op {},.op {},.op {},.op {},.op {rO:=true,wO:=true}] fun all hall _ Z=>?_;refine lY 8 fun _ Y=>?_;simp(disch:=omega)[aH,aG,cD];and_intros<;>(try omega)
  all_goals try (intro d hd;rcases hd with ⟨a, -,rfl⟩ | rfl <;> rfl)
  apply Y;simp(disch:=omega)[aH,aG,cD];and_intros<;>(try omega)
  all_goals try (intro d hd;rcases hd with ⟨a, -,rfl⟩ | rfl <;> rfl)
  apply Z;apply bY;refine zk [4,5] ?_;refine zr q5_1 fun _ _ Z=>?_;refine zs 2 fun _ Y=>?_;simp(disch:=omega)[aH,aG,cD];and_intros<;>(try omega)
  all_goals try (intro d hd;rcases hd with ⟨a, -,rfl⟩ | rfl <;> rfl)
  apply Y;refine aE fun _ Y=>?_;simp(disch:=omega)[aH,aG,cD];refine bS (yE (o.styles++ [⟨⟨#[116,45,100,120]⟩,x.DX⟩,⟨⟨#[116,45,100,121]⟩,x.DY⟩]) _ (by simp;omega)) ?_;apply Y;simp(disch:=omega)[aH,aG,cD];and_intros<;>(try omega)
  all_goals try (intro d hd;rcases hd with ⟨a, -,rfl⟩ | rfl <;> rfl)
  apply Z;refine zr q5_1 fun _ _ Z=>?_;simp(disch:=omega)[aH,aG,cD];and_intros<;>(try omega)
  all_goals try (intro d hd;rcases hd with ⟨a, -,rfl⟩ | rfl <;> rfl)
  apply Z;apply aD;simp [aJ,jX];rw [<- hend,<- hsty];simp [mDx,mDy]
 have hsty:=aIf (o:=o) c12;apply zA;refine zk [4,5] ?_;refine zr q5_1 fun _ _ Z=>?_;refine zs 2 fun _ Y=>?_;simp(disch:=omega)[aH,aG,cD];and_intros<;>(try omega)
 all_goals try (intro d hd;rcases hd with ⟨a, -,rfl⟩ | rfl <;> rfl)
 apply Y;refine aE fun _ Y=>?_;simp(disch:=omega)[aH,aG,cD];refine bS (yE o.styles _ (by omega)) ?_;apply Y;simp(disch:=omega)[aH,aG,cD];and_intros<;>(try omega)
 all_goals try (intro d hd;rcases hd with ⟨a, -,rfl⟩ | rfl <;> rfl)
 apply Z;refine zr q5_1 fun _ _ Z=>?_;simp(disch:=omega)[aH,aG,cD];and_intros<;>(try omega)
 all_goals try (intro d hd;rcases hd with ⟨a, -,rfl⟩ | rfl <;> rfl)
 apply Z;apply aD;simp [aJ,jX];rw [<- hend,<- hsty];try simp
section
variable {nm:α->ByteArray}
theorem Sorted.ext:∀ {A B:List α},Sorted nm A->Sorted nm B->(∀p,p∈A↔p∈B)->A=B
 | [], [],_,_,_=>rfl
 | [],b::B,_,_,h=>absurd ((h b).2 fE) (by simp)
 | a::A, [],_,_,h=>absurd ((h a).1 fE) (by simp)
 | a :: A, b :: B, hA, hB, h => by
  obtain⟨a1,a2⟩:=jC.1 hA;obtain⟨b1,b2⟩:=jC.1 hB;have e:a=b:=by
   rcases bQ.1 ((h a).1 fE)with e | e
   .exact e
   rcases bQ.1 ((h b).2 fE)with e' | e'
   .exact e'.symm
   have h1:=Ji (b1 a e);rw [a1 b e'] at h1;cases h1
  subst e;have ht:∀p,p∈A↔p∈B:=fun p=>by
   have hp:=h p;simp only [bQ] at hp;constructor
   .intro q;rcases hp.1 (.inr q)with e | e
    .subst e;exact absurd rfl (rA (a1 p q))
    exact e
   intro q;rcases hp.2 (.inr q)with e | e
   .subst e;exact absurd rfl (rA (b1 p q))
   exact e
  rw [Sorted.ext a2 b2 ht]
end
def Dj(n:ND)(o:OW):ND:= { n with classes:=bP o.classes,attrs:=o.attrs,styles:=o.styles }
theorem aA2:∀(S:List Stp) (n:ND),bP n.classes=n.classes->okS n.classes S->tM n (S.map cOp)=some { n with classes:=S.foldl rW n.classes }
 | [],n,_,_=>rfl
 | s :: S, n, hc, ⟨h1, h2⟩ => by
  by_cases e:s.drop=true
  .rw [aI e] at h1;have hs:yC n (cOp s)=some { n with classes:=kY n.classes s.name } :=by
    unfold cOp;rw [aI e];show chN n 7 s.name _ _=_
    unfold chN;rw [aA (by decide),aA (by decide),aA (by decide),aA (by decide),aA (by decide),aA (by decide),aA (by decide),aI h1]
   have hst:rW n.classes s=kY n.classes s.name:=by unfold rW;rw [aI e]
   rw [cM,mM hs,aA2 S _ (by show bP (kY n.classes s.name)=_;rw [Wi,hc]) (by rw [hst] at h2;exact h2),dO,hst]
  rw [aA e] at h1;have hs:yC n (cOp s)=some { n with classes:=n.classes++ [s.name] } :=by
   unfold cOp;rw [aA e];show chN n 6 s.name _ _=_
   unfold chN;rw [aA (by decide),aA (by decide),aA (by decide),aA (by decide),aA (by decide),aA (by decide),aI rfl,aA h1]
  have hst:rW n.classes s=n.classes++ [s.name]:=by unfold rW;rw [aA e];unfold rQ;rw [aA h1]
  rw [cM,mM hs,aA2 S _ (by show bP (n.classes++ [s.name])=_;rw [nM,hc];unfold rQ;rw [aA h1]) (by rw [hst] at h2;exact h2),dO,hst]
theorem aAa (hc:bP n.classes=n.classes)(ho:OwOk o)(ha:Sorted nA n.attrs)(hs:Sorted nP n.styles):tM n (jG n o)=some (Dj n o):=by
 have x1:=aA2 (jU n.classes o.classes) n hc (by have:=aK0 n.classes o.classes;rw [hc] at this;exact this);have hx:(jU n.classes o.classes).foldl rW n.classes=bP o.classes:=by
  have:=Zt n.classes o.classes;unfold Yb at this;rw [hc] at this;exact this
 rw [hx] at x1;obtain⟨L,l1,l2,l3⟩:=aLj (n.attrs.filter fun p=> !mG nA o.attrs p.name) { n with classes:=bP o.classes } ha (ha.ne.filter _) fun p hp=>pP.2 ⟨p,(dP.1 hp).1,rfl⟩;obtain⟨M,m1,m2,m3⟩:=aMw (o.attrs.filter fun p=> !decide (p∈n.attrs)) { n with classes:=bP o.classes,attrs:=L } l2 (ho.sa.ne.filter _);obtain⟨P,p1,p2,p3⟩:=aK5 (n.styles.filter fun p=> !mG nP o.styles p.name) { n with classes:=bP o.classes,attrs:=M } hs (hs.ne.filter _) fun p hp=>pP.2 ⟨p,(dP.1 hp).1,rfl⟩;obtain⟨Q,q1,q2,q3⟩:=aKl (o.styles.filter fun p=> !decide (p∈n.styles)) { n with classes:=bP o.classes,attrs:=M,styles:=P } p2 (ho.ss.ne.filter _) fun p hp=>ho.sv p (dP.1 hp).1;have ea:(jH nA An n.attrs o.attrs).map aOp=((n.attrs.filter fun p=> !mG nA o.attrs p.name).map fun p=>DO_.da p.name)++((o.attrs.filter fun p=> !decide (p∈n.attrs)).map fun p=>DO_.sa p.name p.value):=by
  rw [Cn ha ho.sa,cZ,fV,fV];rfl
 have es:(jH nP Ci n.styles o.styles).map sOp=((n.styles.filter fun p=> !mG nP o.styles p.name).map fun p=>DO_.ds p.name)++((o.styles.filter fun p=> !decide (p∈n.styles)).map fun p=>DO_.ss p.name p.value):=by
  rw [Cn hs ho.ss,cZ,fV,fV];rfl
 have eM:M=o.attrs:=m2.ext ho.sa (Wz ha ho.sa l3 m3);have eQ:Q=o.styles:=q2.ext ho.ss (Wz hs ho.ss p3 q3);unfold jG;rw [ea,es,bV,xT x1,bV,xT l1,xT m1,xT p1,q1,eM,eQ];rfl
theorem aL9(l:List ND) {m:ND} (e:n.ID=m.ID):dJ (dJ l m) n=dJ l n:=by
 rw [sT,sT,sT,fV];refine dI fun x _=>?_;show(if(if x.ID=m.ID then m else x).ID=n.ID then n else(if x.ID=m.ID then m else x))=_
 by_cases h:x.ID=m.ID
 .rw [aI h,aI e.symm,aI (h.trans e.symm)]
 rw [aA h]
theorem aBp:∀(O:List DO_) (n n':ND),tM n O=some n'->n'.ID=n.ID
 | [],n,n',h=>by simp [tM] at h;rw [h]
 | q :: O, n, n', h => by
  cases e:yC n q with
  | none=>simp [tM,e] at h
  | some m=>
   rw [mM e] at h;rw [aBp O m n' h];exact(aJy e).1
theorem aRy (h0:¬i=0):∀(O:List DO_) (x:Nat->RD) (c:Nat->Int) (n':ND),((x 0).l.map ND.ID).Nodup->fO (x 0).l i=true->(aL (x 0).l i).kind=2->(∀j (h:j<O.length),setX (x j) (O[j].kind - 6) i O[j].name O[j].value O[j].num=(x (j+1),c j))->(∀q∈O,dH q.name=true)->tM (aL (x 0).l i) O=some n'->
  x O.length=⟨(x 0).most,(x 0).next,dJ (x 0).l n'⟩
 | [],x,c,n',hnd,h1,h2,hs,hn,hr=>by
  simp [tM] at hr;obtain⟨n,n1,n2,n3⟩:=eV h1;have e:dJ (x 0).l n'=(x 0).l:=by rw [<- hr,n3];exact aD7 hnd n1
  rw [e];rfl
 | q :: O, x, c, n', hnd, h1, h2, hs, hn, hr => by
  cases e:yC (aL (x 0).l i) q with
  | none=>simp [tM,e] at hr
  | some m =>
   rw [mM e] at hr;obtain⟨id1,id2⟩:=aJy e;have hk:=q.kind_ge;have hx:=rD (x:=x 0) (kind:=q.kind - 6) (id:=i) h1 h0 (by rw [h2];constructor <;> intro h <;> omega) (.inr (hn q fE)) e;have hx0:setX (x 0) (q.kind - 6) i q.name q.value q.num=(x 1,c 0):=hs 0 (by simp);rw [hx] at hx0;obtain⟨y1,y2⟩:=gJ .. ▸ hx0;obtain⟨n,n1,n2,n3⟩:=eV h1;have hp:=qL hnd (p:=n) (p':=m) n1 (by rw [id1,n3]) i;rw [aI n2.symm] at hp;have l1:(x 1).l=dJ (x 0).l m:=by rw [<- y1]
   have hrec:=aRy h0 O (fun j=>x (j+1)) (fun j=>c (j+1)) n' (by show((x 1).l.map ND.ID).Nodup;rw [l1,nI];exact hnd) (by show fO (x 1).l i=true;rw [l1,Dx];exact h1) (by show(aL (x 1).l i).kind=2;rw [l1,hp,id2];exact h2)
    (fun j h=>hs (j+1) (by simpa using h)) (fun q hq=>hn q (gL _ hq)) (by show tM (aL (x 1).l i) O=_;rw [l1,hp];exact hr)
   have hid:n'.ID=m.ID:=aBp O m n' hr;show x (O.length+1)=_
   have h3:x (O.length+1)=⟨(x 1).most,(x 1).next,dJ (x 1).l n'⟩:=hrec;rw [h3,l1,aL9 _ hid,<- y1]
section
variable {k m M l:Nat}{d d':DS}{rk rk':Int->Nat}{σ σ2:List (List D)}{x y:RD}{ops:List TOp}
theorem aC5(h:LX k m M l d rk x ops σ)(i:Int)(o:OW)(hb:k+(jG (aL x.l i) o).length<=790)(h1:o.classes.length<=8)(h2:o.attrs.length<=8)(h3:o.styles.length<=8)(hs:∀s∈eJ o,s.size<=9223372036854775807)(hv:∀p∈o.attrs,p.value.size<=1000)(ho:OwOk o)(hn:NmsOk x)
  (hm:Jq (aL x.l i) (fO x.l i) i o=0) (hc:bP (aL x.l i).classes=(aL x.l i).classes):
  ∃d' rk' ops' σ',Ct prog 55 [.ref l 0,D.int i,vX o] σ (fun r τ=>r=D.int 0/\τ=σ')/\LX (k+(jG (aL x.l i) o).length) m M l d' rk' ⟨x.most,x.next,dJ x.l (Dj (aL x.l i) o)⟩ ops' σ'/\Oth m (· =l) d d' σ σ':=by
 have hme:=aS6 h.ix i o;obtain⟨b1,b2,b3,b4⟩:=aSq hm;have hsa:Sorted nA (aL x.l i).attrs:=by rw [aGj h.ix];exact aSh h.ix.iv i
 have hss:Sorted nP (aL x.l i).styles:=by rw [aGj h.ix];exact aR9 h.ix.iv i
 obtain⟨n,n1,n2,n3⟩:=eV b1;have hq:=aHv ho hsa hss (by rw [n3];exact hn n n1) b4 hv;have r1:=aAa hc ho hsa hss;obtain⟨st,cs,e0,e1,e2⟩:=aC8 (i:=i) (jG (aL x.l i) o) k ⟨d,rk,x,ops,σ⟩ h hb fun q hq'=>⟨by have:=zC (hq q hq').1;omega,(hq q hq').2⟩;have es:(st 0).x=x:=by rw [e0]
 have hx:(st (jG (aL x.l i) o).length).x=⟨x.most,x.next,dJ x.l (Dj (aL x.l i) o)⟩:=by
  have:=aRy b2 (jG (aL x.l i) o) (fun j=>(st j).x) cs (Dj (aL x.l i) o) (by show((st 0).x.l.map ND.ID).Nodup;rw [es];exact(aWb h.ix).nd) (by show fO (st 0).x.l i=true;rw [es];exact b1) (by show(aL (st 0).x.l i).kind=2;rw [es];exact b3)
   (fun j hj=>(e2 j hj).2.2.1) (fun q hq'=>(hq q hq').1) (by show tM (aL (st 0).x.l i) _=_;rw [es];exact r1)
  have h2:(st (jG (aL x.l i) o).length).x=⟨(st 0).x.most,(st 0).x.next,dJ (st 0).x.l (Dj (aL x.l i) o)⟩:=this;rw [h2,es]
 obtain⟨hlx,hoth⟩:=e1 _ (aY _);rw [hx] at hlx;have hd:=aGj h.ix;obtain⟨c1,c2,c3⟩:=aYg (O:=jG (aL x.l i) o) rfl;have hlen:(jG (aL x.l i) o).length=(jU (aL x.l i).classes o.classes).length+(jH nA An (aL x.l i).attrs o.attrs).length+(jH nP Ci (aL x.l i).styles o.styles).length:=by unfold jG;simp;omega
 have e3:∀j (h:j<(jG (aL x.l i) o).length),Ct prog (jG (aL x.l i) o)[j].lf (.ref l 0::(jG (aL x.l i) o)[j].la i) (st j).σ (fun r τ=>r=D.int (cs j)/\τ=(st (j+1)).σ):=fun j hj=>(e2 j hj).1;refine⟨_,_,_,_,?_,hlx,hoth⟩;have:=aF0 k m M l d rk x ops i o (fun j=>(st j).σ) cs σ h (by omega) (by omega) (by omega) (by omega) hs (by rw [hme];exact hm) (by show(st 0).σ=σ;rw [e0])
  (by
   rw [<- hd];intro j hj;have q:=e3 j (by omega);have e:(jG (aL x.l i) o)[j]'(by omega)=cOp (jU (aL x.l i).classes o.classes)[j]:=c1 j hj _;rw [e] at q;exact q)
  (by
   rw [<- hd];intro j hj;have q:=e3 ((jU (aL x.l i).classes o.classes).length+j) (by omega);have e:(jG (aL x.l i) o)[(jU (aL x.l i).classes o.classes).length+j]'(by omega)=aOp (jH nA An (aL x.l i).attrs o.attrs)[j]:=c2 j hj _;rw [e] at q;exact q)
  (by
   rw [<- hd];intro j hj;have q:=e3 ((jU (aL x.l i).classes o.classes).length+(jH nA An (aL x.l i).attrs o.attrs).length+j) (by omega);have e:(jG (aL x.l i) o)[(jU (aL x.l i).classes o.classes).length+(jH nA An (aL x.l i).attrs o.attrs).length+j]'(by omega)=sOp (jH nP Ci (aL x.l i).styles o.styles)[j]:=c3 j hj _;rw [e] at q;exact q)
 rw [<- hd,<- hlen] at this;exact this
end
section
variable {k m M l:Nat} {d d':DS} {rk rk':Int->Nat} {σ σ2:List (List D)} {x y:RD} {ops:List TOp}
def It(x:RD)(kind:Int)(s:ByteArray):RD:=⟨x.most,x.next+1,x.l++ [iD x.next kind s]⟩
theorem aWt(h:LX k m M l d rk x ops σ)(hk:k<=800)(s:ByteArray)(hs:s.size<=1000)(hn:dH s=true)(hr:(x.l.length:Int)<=x.most):
  ∃d' rk' ops' σ',Ct prog 178 [.ref l 0,D.str s] σ (fun r τ=>r= .tup [D.int x.next,D.int 0]/\τ=σ')/\LX (k+1) m M l d' rk' (It x 2 s) ops' σ'/\Oth m (· =l) d d' σ σ':=by
 have hh:=h;obtain⟨⟨hi,hx⟩,hoff,hat,hlen⟩:=h;have hl:ops.length<=100000:=by omega
 obtain⟨d',rk',σ',hc,hi',e,fr⟩:=aTt k m M d rk s σ hi hk hs;obtain⟨p1,p2⟩:=hx.addX hi.ip.lt 2 s;have ex:addX x 2 s=(It x 2 s,x.next,0):=Jb (fun e=>by rw [hn] at e;cases e.2) (by omega);rw [ex] at p1 p2;rw [<- p1] at hc;obtain⟨o2,st⟩:=hh.step ⟨hi',by rw [e];exact p2⟩ fr;exact⟨d',rk',_,_,Uj l m ops s _ _ σ' σ hat hc o2 hl,st _ _,fr.othN l ops _ _⟩
theorem aXz(h:LX k m M l d rk x ops σ)(hk:k<=800)(s:ByteArray)(hr:(x.l.length:Int)<=x.most):
  ∃d' rk' ops' σ',Ct prog 177 [.ref l 0,D.str s] σ (fun r τ=>r= .tup [D.int x.next,D.int 0]/\τ=σ')/\LX (k+1) m M l d' rk' (It x 1 s) ops' σ'/\Oth m (· =l) d d' σ σ':=by
 have hh:=h;obtain⟨⟨hi,hx⟩,hoff,hat,hlen⟩:=h;have hl:ops.length<=100000:=by omega
 obtain⟨d',rk',σ',hc,hi',e,fr⟩:=aU0 k m M d rk s σ hi hk;obtain⟨p1,p2⟩:=hx.addX hi.ip.lt 1 s;have ex:addX x 1 s=(It x 1 s,x.next,0):=Jb (fun e=>by cases e.1) (by omega);rw [ex] at p1 p2;rw [<- p1] at hc;obtain⟨o2,st⟩:=hh.step ⟨hi',by rw [e];exact p2⟩ fr;exact⟨d',rk',_,_,aNj l m ops s _ _ σ' σ hat hc o2 hl,st _ _,fr.othN l ops _ _⟩
def aH1(x:RD)(p:Int)(at_:Nat)(id:Int):RD:=⟨x.most,x.next,dJ (dJ x.l { aL x.l p with kids:=fP (aL x.l p).kids at_ id }) { aL x.l id with parent:=p }⟩
theorem aUx(h:LX k m M l d rk x ops σ)(hk:k<=800)(p:Int)(a:Nat)(i:Int)(h1:fO x.l p=true)(h2:fO x.l i=true)(h3:(aL x.l p).kind=2)(h4:¬i=0)(h5:(aL x.l i).parent<0)(h6:oJ x.l (dW d.l rk) p i=false)(h7:a<=(aL x.l p).kids.length):
  ∃d' rk' ops' σ',Ct prog 64 [.ref l 0,D.int p,D.int a,D.int i] σ (fun r τ=>r=D.int 0/\τ=σ')/\LX (k+1) m M l d' rk' (aH1 x p a i) ops' σ'/\Oth m (· =l) d d' σ σ':=by
 have hh:=h;obtain⟨⟨hi,hx⟩,hoff,hat,hlen⟩:=h;have hl:ops.length<=100000:=by omega
 obtain⟨d',rk',σ',hc,hi',e,fr⟩:=aTi k m M d rk p a i σ hi hk;obtain⟨p1,p2⟩:=hx.insX (dW d.l rk) p a i;have ex:insX x (dW d.l rk) p a i=(aH1 x p a i,0):=by
  unfold insX;rw [aA (by simp [h1,h2]),aA (by simp [h3]),aA (by simp [h4,h6];omega)];rfl
 rw [ex] at p1 p2;rw [<- p1] at hc;obtain⟨o2,st⟩:=hh.step ⟨hi',by rw [e];exact p2⟩ fr;exact⟨d',rk',_,_,Zv l m ops p a i _ σ' σ hat hc o2 hl,st _ _,fr.othN l ops _ _⟩
end
theorem aBv {l:List ND} (hup:∀id,∀c∈(aL l id).kids,id<c):∀(f:Nat) (i j:Int),j∈Cs f l i->i<=j
 | 0,i,j,h=>by simp [Cs] at h;omega
 | f+1,i,j,h=>by
  simp only [Cs,bQ,mO] at h;rcases h with rfl | ⟨c,hc,hj⟩
  .omega
  have h1:=hup i c hc;have h2:=aBv hup f c j hj;omega
theorem aGn {l:List ND} (hup:∀id,∀c∈(aL l id).kids,id<c)(rk:Int->Nat) {p:Int} (h:p<i):oJ l (dW l rk) p i=false:=by
 unfold oJ;have:(dW l rk i).any (fun k=>decide (k=p))=false:=by
  rw [nQ];intro k hk;have:=aBv hup _ i k hk;simp;omega
 rw [this];simp
def vK(i par:Int)(v:VN)(ks:List Int):ND:=if v.kind=1 then⟨i,1,⟨#[]⟩,v.text, [], [], [],par,ks⟩else⟨i,2,v.tag,⟨#[]⟩,v.classes,v.attrs,v.styles,par,ks⟩
theorem lN(i par:Int)(v:VN)(ks:List Int):(vK i par v ks).ID=i:=by unfold vK;split <;> rfl
theorem Db(i par:Int)(v:VN)(ks:List Int):(vK i par v ks).kids=ks:=by unfold vK;split <;> rfl
theorem aQ5(i par:Int)(v:VN)(ks:List Int):(vK i par v ks).parent=par:=by unfold vK;split <;> rfl
def lJ:Int->List VN->List Int
 | _, []=> []
 | i,k::ks=>i::lJ (i+dL k) ks
theorem xM:∀(i:Int) (ks:List VN),(lJ i ks).length=ks.length
 | _, []=>rfl
 | i,k::ks=>by simp [lJ,xM]
theorem Nl:∀(i:Int) (ks:List VN) (k:VN),lJ i (ks++ [k])=lJ i ks++ [i+((ks.map dL).sum:Nat)]
 | i, [],k=>by simp [lJ]
 | i,a::ks,k=>by
  simp only [aQ,lJ,Nl,cM,kQ];congr 3;omega
theorem aC3:∀(i:Int) (ks:List VN),∀c∈lJ i ks,i<=c
 | i, [],c,h=>by cases h
 | i,k::ks,c,h=>by
  simp only [lJ,bQ] at h;rcases h with rfl | h
  .omega
  have:=aC3 _ ks c h;omega
def tU:Nat->Int->Int->VN->List ND
 | 0,_,_,_=> []
 | n+1,i,par,v=>vK i par v (lJ (i+1) v.kids)::growKs (tU n) (i+1) i v.kids
where growKs (f:Int->Int->VN->List ND):Int->Int->List VN->List ND
 | _,_, []=> []
 | i,par,k::ks=>f i par k++growKs f (i+dL k) par ks
theorem Ib(f:Int->Int->VN->List ND):∀(i par:Int) (ks:List VN) (k:VN),tU.growKs f i par (ks++ [k])=tU.growKs f i par ks++f (i+((ks.map dL).sum:Nat)) par k
 | i,par, [],k=>by simp [tU.growKs]
 | i,par,a::ks,k=>by
  simp only [aQ,tU.growKs,Ib f,cM,kQ,bV];congr 3;omega
theorem Hn {f g:Int->Int->VN->List ND} :∀(ks:List VN),(∀k∈ks,∀i par,f i par k=g i par k)->∀(i par:Int),tU.growKs f i par ks=tU.growKs g i par ks
 | [],_,i,par=>rfl
 | k::ks,h,i,par=>by
  simp only [tU.growKs];rw [h k fE,Hn ks fun x hx=>h x (gL _ hx)]
theorem Mh:∀(n m:Nat) (v:VN),dL v<=n->dL v<=m->∀i par,tU n i par v=tU m i par v
 | 0,_,v,h,_,i,par=>by have:=pV v;omega
 | _,0,v,_,h,i,par=>by have:=pV v;omega
 | n+1,m+1,v,hn,hm,i,par=>by
  simp only [tU];rw [Hn v.kids fun k hk i par=>Mh n m k (by have:=fY hk;omega) (by have:=fY hk;omega) i par]
def jS(i par:Int)(v:VN):List ND:=tU (dL v) i par v
def pZ(i par:Int)(ks:List VN):List ND:=tU.growKs jS i par ks
theorem sY(i par:Int)(v:VN):jS i par v=vK i par v (lJ (i+1) v.kids)::pZ (i+1) i v.kids:=by
 unfold jS pZ;obtain⟨n,hn⟩:∃n,dL v=n+1:=⟨dL v - 1,by have:=pV v;omega⟩;rw [hn];simp only [tU];congr 1;exact Hn v.kids (fun k hk i par=>Mh n (dL k) k (by have:=fY hk;omega) (aY _) i par) _ _
theorem aHf(i par:Int):pZ i par []= []:=rfl
theorem Yw(i par:Int)(ks:List VN)(k:VN):pZ i par (ks++ [k])=pZ i par ks++jS (i+((ks.map dL).sum:Nat)) par k:=Ib jS i par ks k
theorem Bq(i par:Int)(k:VN)(ks:List VN):pZ i par (k::ks)=jS i par k++pZ (i+dL k) par ks:=rfl
theorem Gt:∀(v:VN) (i par:Int),(jS i par v).map ND.ID=(List.range (dL v)).map fun(n:Nat)=>i+(n:Int)
 | v, i, par => by
  have hk:∀(ks:List VN) (i par:Int),(∀k∈ks,k∈v.kids)->(pZ i par ks).map ND.ID=(List.range (ks.map dL).sum).map fun(n:Nat)=>i+(n:Int):=by
   intro ks;induction ks with
   | nil=>intro i par _;rfl
   | cons k ks ih=>
    intro i par h;have hkv:=fY (h k fE);rw [Bq,cZ,Gt k i par,ih _ _ fun x hx=>h x (gL _ hx),cM,kQ,Fe,cZ,fV];congr 1;refine dI fun n _=>?_;simp only [Function.comp];omega
  rw [sY,cM,lN,hk v.kids (i+1) i fun _ h=>h,kA v,Fe,cZ,fV];show i::_= [i+((0:Nat):Int)]++_
  rw [show i+((0:Nat):Int)=i by omega];show i::_=i::_
  congr 1;refine dI fun n _=>?_;simp only [Function.comp];omega
termination_by v=>dL v
theorem Oz(v:VN)(i par:Int):(jS i par v).length=dL v:=by
 have:=congrArg List.length (Gt v i par);simpa using this
theorem Ez (h:n∈jS i par v):i<=n.ID/\n.ID<i+dL v:=by
 have:=Gf (f:=ND.ID) h;rw [Gt] at this;obtain⟨a,ha,e⟩:=aX.1 this;have:=fS.1 ha;omega
theorem tJ {l:List ND} (h:∀m∈l,m.ID≠n.ID):dJ l n=l:=by
 rw [sT]
 conv=>rhs;rw [<- List.map_id l]
 exact dI fun m hm=>by rw [aA (h m hm)];rfl
theorem xH(A B:List ND)(n:ND):dJ (A++B) n=dJ A n++dJ B n:=by rw [sT,sT,sT,cZ]
theorem Ai(a:ND)(B:List ND)(n:ND):dJ (a::B) n=(if a.ID=n.ID then n else a)::dJ B n:=rfl
theorem Jr {B:List ND} (hA:∀m∈A,m.ID≠n.ID):aL (A++n::B) n.ID=n/\fO (A++n::B) n.ID=true:=by
 have h:(A++n::B).find? (fun m=>decide (m.ID=n.ID))=some n:=by
  rw [List.find?_append,sM.2 fun m hm=>by simpa using hA m hm];simp
 exact⟨by unfold aL kV;rw [h];rfl,by unfold fO kV;rw [h];rfl⟩
theorem aMm(i par par2:Int)(v:VN)(ks:List Int): { vK i par v ks with parent:=par2 } =vK i par2 v ks:=by unfold vK;split <;> rfl
theorem aDy(i par:Int)(v:VN)(ks ks2:List Int): { vK i par v ks with kids:=ks2 } =vK i par v ks2:=by unfold vK;split <;> rfl
theorem uZ:∀ {ks:List VN} {i par:Int} {n:ND},n∈pZ i par ks->i<=n.ID/\n.ID<i+((ks.map dL).sum:Nat)
 | [],i,par,n,h=>by cases h
 | k::ks,i,par,n,h=>by
  rw [Bq] at h;simp only [cM,kQ];rcases bN.1 h with h | h
  .have:=Ez h;omega
  have:=uZ h;omega
def Nh(A:List ND)(i par:Int)(v:VN)(j:Nat):List ND:=A++vK i par v (lJ (i+1) (v.kids.take j))::pZ (i+1) i (v.kids.take j)
def pL(i:Int)(v:VN)(j:Nat):Int:=i+1+(Be v j:Nat)
theorem aWf(A:List ND)(i par:Int)(v:VN):Nh A i par v 0=A++ [vK i par v []]:=by unfold Nh;simp [lJ,aHf]
theorem Um (hA:∀m∈A,m.ID<i)(B:List ND):aL (Nh A i par v j++B) i=vK i par v (lJ (i+1) (v.kids.take j))/\fO (Nh A i par v j++B) i=true:=by
 have:=Jr (A:=A) (B:=pZ (i+1) i (v.kids.take j)++B) (n:=vK i par v (lJ (i+1) (v.kids.take j))) (fun m hm=>by rw [lN];have:=hA m hm;omega);rw [lN] at this;unfold Nh;rw [bV,aQ];exact this
theorem Vf (hA:∀m∈A,m.ID<i)(hj:j<v.kids.length):aL (Nh A i par v j++jS (pL i v j) (-1) v.kids[j]) (pL i v j)=vK (pL i v j) (-1) v.kids[j] (lJ (pL i v j+1) v.kids[j].kids)/\fO (Nh A i par v j++jS (pL i v j) (-1) v.kids[j]) (pL i v j)=true:=by
 rw [sY];have:=Jr (A:=Nh A i par v j) (B:=pZ (pL i v j+1) (pL i v j) v.kids[j].kids) (n:=vK (pL i v j) (-1) v.kids[j] (lJ (pL i v j+1) v.kids[j].kids)) (fun m hm=>by
  rw [lN];unfold Nh at hm;rcases bN.1 hm with h | h
  .have:=hA m h;unfold pL;omega
  rcases bQ.1 h with rfl | h
  .rw [lN];unfold pL;omega
  have:=uZ h;unfold pL Be;omega)
 rw [lN] at this;exact this
theorem aLs {mo nx:Int} (hA:∀m∈A,m.ID<i)(hj:j<v.kids.length):
  aH1 ⟨mo,nx,Nh A i par v j++jS (pL i v j) (-1) v.kids[j]⟩ i j (pL i v j)=⟨mo,nx,Nh A i par v (j+1)⟩:=by
 unfold aH1;obtain⟨f1, -⟩:=Um (par:=par) (v:=v) (j:=j) hA (jS (pL i v j) (-1) v.kids[j]);obtain⟨f2, -⟩:=Vf (par:=par) hA hj;simp only [];rw [f1,f2,aDy,aMm,Db];have hl:(lJ (i+1) (v.kids.take j)).length=j:=by rw [xM,bG];omega
 have hins:fP (lJ (i+1) (v.kids.take j)) j (pL i v j)=lJ (i+1) (v.kids.take (j+1)):=by
  rw [bJ _ _ hj,Nl];unfold fP;rw [bZ (by omega),uY (by omega)];rfl
 rw [hins];have hA1:∀q:ND,q.ID=i->dJ A q=A:=fun q hq=>tJ fun m hm=>by rw [hq];have:=hA m hm;omega
 have hA2:∀q:ND,q.ID=pL i v j->dJ A q=A:=fun q hq=>tJ fun m hm=>by rw [hq];have:=hA m hm;unfold pL;omega
 have hK1:∀q:ND,q.ID=i->dJ (pZ (i+1) i (v.kids.take j)) q=pZ (i+1) i (v.kids.take j):=fun q hq=>tJ fun m hm=>by rw [hq];have:=uZ hm;omega
 have hK2:∀q:ND,q.ID=pL i v j->dJ (pZ (i+1) i (v.kids.take j)) q=pZ (i+1) i (v.kids.take j):=fun q hq=>tJ fun m hm=>by rw [hq];have:=uZ hm;unfold pL Be;omega
 have hR1:∀q:ND,q.ID=i->dJ (jS (pL i v j) (-1) v.kids[j]) q=jS (pL i v j) (-1) v.kids[j]:=fun q hq=>tJ fun m hm=>by rw [hq];have:=Ez hm;unfold pL at this;omega
 have e1:dJ (Nh A i par v j++jS (pL i v j) (-1) v.kids[j]) (vK i par v (lJ (i+1) (v.kids.take (j+1))))=(A++vK i par v (lJ (i+1) (v.kids.take (j+1)))::pZ (i+1) i (v.kids.take j))++jS (pL i v j) (-1) v.kids[j]:=by
  unfold Nh;rw [xH,xH,Ai,hA1 _ (lN ..),hK1 _ (lN ..),hR1 _ (lN ..),aI (by rw [lN,lN])]
 rw [e1,xH,xH,Ai,hA2 _ (lN ..),hK2 _ (lN ..),aA (by rw [lN,lN];unfold pL;omega)];have e2:dJ (jS (pL i v j) (-1) v.kids[j]) (vK (pL i v j) i v.kids[j] (lJ (pL i v j+1) v.kids[j].kids))=jS (pL i v j) i v.kids[j]:=by
  rw [sY,sY,Ai,aI (by rw [lN,lN]),tJ fun m hm=>by rw [lN];have:=uZ hm;omega]
 rw [e2];unfold Nh;rw [bJ _ _ hj,Yw,bV,aQ];rfl
def iX(v:VN):OW:=⟨v.classes,v.attrs,v.styles⟩
def aLy(v:VN):Prop:=(v.kind=1/\eJ (iX v)= []/\v.kids= [])\/(2<=v.kind/\v.kind<=4/\dH v.tag=true/\(∀s∈eJ (iX v),dH s=true)/\∀p∈v.styles, -2147483648<=p.value/\p.value<=2147483647)
theorem aW2 (h:2<=v.kind)(h1:v.kind<=4)(h2:dH v.tag=true)(h3:∀s∈eJ (iX v),dH s=true)(h4:∀p∈v.styles, -2147483648<=p.value/\p.value<=2147483647):aLy v:= .inr ⟨h,h1,h2,h3,h4⟩
theorem Dq {P:α->Prop} {l:List α} {k:Nat} (h:k<l.length)(hh:∀x∈l.take k,P x)(hx:P l[k]):∀x∈l.take (k+1),P x:=by
 intro x hm;rw [bJ l k h] at hm;rcases bN.1 hm with h | h
 .exact hh x h
 rw [fG.1 h];exact hx
theorem aWy {N:Ls} {k0 k2:Nat} (h:2<=v.kind)(h1:v.kind<=4)(h2:dH v.tag=true)(hN:eJ (iX v)=N)(h3:∀s∈N.take k0,dH s=true)(e0:N.length<=k0)(h4:∀p∈v.styles.take k2, -2147483648<=p.value/\p.value<=2147483647)(e2:v.styles.length<=k2):aLy v:=by
 subst hN;rw [bZ e0] at h3;rw [bZ e2] at h4;exact aW2 h h1 h2 h3 h4
def iH(v:VN)(b:Bool):Prop:=b=true->aLy v
@[simp] theorem aZr(v:VN):iH v false:=fun h=>by cases h
theorem eS {b:Bool} (h:v.kind=1)(h1:eJ (iX v)= [])(h2:v.kids= []):iH v b:=fun _=> .inl ⟨h,h1,h2⟩
theorem eP {b:Bool} {N:Ls} {k0 k2:Nat} (h:2<=v.kind)(h1:v.kind<=4)(h2:dH v.tag=true)(hN:eJ (iX v)=N)(h3:∀s∈N.take k0,dH s=true)(e0:N.length<=k0)(h4:∀p∈v.styles.take k2, -2147483648<=p.value/\p.value<=2147483647)(e2:v.styles.length<=k2):iH v b:=fun _=>aWy h h1 h2 hN h3 e0 h4 e2
theorem aQw(a b c:Int)(k:Nat):∃z:Int,k<3->([D.v (.int .i64 a),D.v (.int .i64 b),D.v (.int .i64 c)][k]?).getD D.any=D.v (.int .i64 z):=by
 match k with
 | 0=>exact⟨a,fun _=>rfl⟩
 | 1=>exact⟨b,fun _=>rfl⟩
 | 2=>exact⟨c,fun _=>rfl⟩
 | k+3=>exact⟨0,fun h=>absurd h (by omega)⟩
theorem aKw (h:VF v):∀s∈eJ (iX v),s.size<=20:=by
 obtain⟨-, -, -, -, -, -,h1,h2,h3⟩:=h;intro s hs;rcases bN.1 hs with hs | hs
 .rcases bN.1 hs with hs | hs
  .exact h1 s hs
  obtain⟨p,hp,rfl⟩:=aX.1 hs;exact(h2 p hp).1
 obtain⟨p,hp,rfl⟩:=aX.1 hs;exact h3 p hp
theorem aBh (h:VF v):(eJ (iX v)).length<=12:=by
 obtain⟨h1,h2,h3, -⟩:=h;simp [eJ,iX];omega
@[simp] abbrev q5_2:Cfg:=⟨[2,3,19,32,38],[],[],[],[]⟩
theorem zX(v:VN)(σ:List (List D))(h1:v.classes.length<=9999)(h2:v.attrs.length<=9999)(h3:v.styles.length<=9999):Ct prog 172 [kJ v] σ (fun r σ'=>r=dlo (eJ (iX v))/\σ'=σ):=by
 refine zf func172 ?_;refine zr q5_2 fun _ _ Z=>?_;simp(disch:=omega);apply Z;refine zr q5_2 fun _ _ Z=>?_;simp(disch:=omega);and_intros<;>(try omega);apply Z;apply aF;refine zr q5_2 fun _ _ Z=>?_;simp(disch:=omega);and_intros<;>(try omega);apply Z;apply aR;refine zk [1,2,3,13,14,15] ?_;refine bA (fun(k:Nat)=> [(15,.d (.v (.int .i64 (k:Int)))),(3,.d (dlo (Bb (iX v) k))),(5,.d (.any))]) [3,5,15,16,17,18,19,20,21,22,23,24] (fun(k:Nat)=>k<=v.attrs.length) (fun(k:Nat)=>v.attrs.length - k) (0) (by simp <;> rfl) ?_ ?_ ?_
 .simp [Bb,iX]
 .simp
 rintro k hk;simp only [aQ,aP];have hnl:(Bb (iX v) k).length=v.classes.length+k:=Wv (iX v) k hk;refine zr q5_2 fun _ _ Z=>?_;simp(disch:=omega);apply Z;apply aF;refine zI ?_ ?_<;>intro c1<;>try simp at c1
 .have hnn:Bb (iX v) (k+1)=Bb (iX v) k++ [v.attrs[k].name]:=Qr (iX v) c1;apply kB;refine zr q5_2 fun _ _ Z=>?_;simp(disch:=omega);and_intros<;>(try omega);apply Z;refine zt q5_2 fun _ _ Z=>?_;simp(disch:=omega);and_intros<;>(try omega);apply Z;apply zB;refine zk [1,2,3,5,13,14,15] ?_;refine zt q5_2 fun _ _ Z=>?_;simp(disch:=omega);and_intros<;>(try omega);apply Z;refine zq (k+1) ?_ ?_ ?_
  .omega
  .try dsimp only
   omega
  simp(disch:=omega)[hnn]
 obtain rfl:k=v.attrs.length:=by omega
 rw [show Bb (iX v) v.attrs.length=Aq (iX v) 0 from Wr (iX v)];apply zE;apply aF;refine zr q5_2 fun _ _ Z=>?_;simp(disch:=omega);and_intros<;>(try omega);apply Z;apply aR;refine zk [2,3,26,27,28] ?_;refine bA (fun(j:Nat)=> [(28,.d (.v (.int .i64 (j:Int)))),(3,.d (dlo (Aq (iX v) j))),(7,.d (.any))]) [3,7,28,29,30,31,32,33,34,35,36,37] (fun(j:Nat)=>j<=v.styles.length) (fun(j:Nat)=>v.styles.length - j) (0) (by simp <;> rfl) ?_ ?_ ?_
 .simp
 .simp
 rintro j hj;simp only [aQ,aP];have hnl:(Aq (iX v) j).length=v.classes.length+v.attrs.length+j:=Uc (iX v) j hj;refine zr q5_2 fun _ _ Z=>?_;simp(disch:=omega);apply Z;apply aF;refine zI ?_ ?_<;>intro c2<;>try simp at c2
 .have hnn:Aq (iX v) (j+1)=Aq (iX v) j++ [v.styles[j].name]:=On (iX v) c2;apply kB;refine zr q5_2 fun _ _ Z=>?_;simp(disch:=omega);and_intros<;>(try omega);apply Z;refine zt q5_2 fun _ _ Z=>?_;simp(disch:=omega);and_intros<;>(try omega);apply Z;apply zB;refine zk [2,3,7,26,27,28] ?_;refine zt q5_2 fun _ _ Z=>?_;simp(disch:=omega);and_intros<;>(try omega);apply Z;refine zq (j+1) ?_ ?_ ?_
  .omega
  .try dsimp only
   omega
  simp(disch:=omega)[hnn]
 obtain rfl:j=v.styles.length:=by omega
 rw [show Aq (iX v) v.styles.length=eJ (iX v)from Wy (iX v)];apply zE;refine zr q5_2 fun _ _ Z=>?_;simp(disch:=omega);apply Z;apply aD;simp [aJ]
theorem aJu(s:ByteArray)(σ:List (List D))(hs:s.size<=9999):Ct prog 218 [D.str s] σ (fun r σ'=>(∃b:Bool,r=D.bool b)/\σ'=σ):=by
 refine zf func218 ?_;refine aZ fun _ _ Z=>?_;simp(disch:=omega);apply Z;apply aF;refine aZ fun _ _ Z=>?_;simp(disch:=omega);apply Z;apply aR;refine zk [0,2,3] ?_;refine bA (fun(k:Nat)=> [(3,.d (.v (.int .i64 (k:Int))))]) [2,3,4,5,6,7,8,9,10,11,12,13,14,15,16,17,18,19,20,21,22,23,24,25] (fun(k:Nat)=>k<=s.size) (fun(k:Nat)=>s.size - k) (0) (by simp <;> rfl) ?_ ?_ ?_
 .simp
 .simp
 rintro k hk;simp only [aQ,aP];apply aF;refine aZ fun _ _ Z=>?_;simp(disch:=omega);and_intros<;>(try omega);apply Z;refine zI ?_ ?_<;>intro c1<;>try simp at c1
 .apply kB;refine zk [0,3] ?_;refine iU ⟨[],[],[],[],[]⟩ fun all hall _ Z=>?_;have ga4:aK all 4=some 14:=hall 4;have ga10:aK all 10=some 20:=hall 10;refine zs 5 fun _ Y=>?_;simp(disch:=omega)[ga4,ga10];and_intros<;>(try omega);apply Y;refine zb 14 ?_ ?_<;>intro g2<;>try simp at g2
  .refine zs 6 fun _ Y=>?_;simp(disch:=omega)[ga4,ga10];apply Y;simp(disch:=omega)[ga4,ga10];apply Z;refine aV (t:=true) (by simp) (fun _=>?_) (fun h=>by cases h);refine zk [0,3] ?_;refine aZ fun _ _ Z=>?_;simp(disch:=omega);apply Z;apply aD;simp [aJ]
  refine zs 6 fun _ Y=>?_;simp(disch:=omega)[ga4,ga10];and_intros<;>(try omega);apply Y;refine zb 20 ?_ ?_<;>intro g3<;>try simp at g3
  .simp(disch:=omega)[ga4,ga10];apply Z;refine aV (t:=true) (by simp) (fun _=>?_) (fun h=>by cases h);refine zk [0,3] ?_;refine aZ fun _ _ Z=>?_;simp(disch:=omega);apply Z;apply aD;simp [aJ]
  simp(disch:=omega)[ga4,ga10];and_intros<;>(try omega);apply Z;refine zI ?_ ?_<;>intro c4<;>try simp at c4
  .refine zk [0,3] ?_;refine aZ fun _ _ Z=>?_;simp(disch:=omega);apply Z;apply aD;simp [aJ]
  apply nD;refine zk [0,3] ?_;refine mD fun _ _ Z=>?_;simp(disch:=omega);and_intros<;>(try omega);apply Z;refine zq (k+1) ?_ ?_ ?_
  .omega
  .try dsimp only
   omega
  simp(disch:=omega)
 apply zE;refine aZ fun _ _ Z=>?_;simp(disch:=omega);and_intros<;>(try omega);apply Z;apply aD;simp [aJ]
theorem Qs(s:ByteArray)(σ:List (List D))(hs:s.size<=9999):Ct prog 219 [D.str s] σ (fun r σ'=>(∃b:Bool,r=D.bool b)/\σ'=σ):=by
 refine zf func219 ?_;refine aZ fun _ _ Z=>?_;simp(disch:=omega);apply Z;apply aF;refine aZ fun _ _ Z=>?_;simp(disch:=omega);apply Z;apply aR;refine zk [0,2,3] ?_;refine bA (fun(k:Nat)=> [(3,.d (.v (.int .i64 (k:Int))))]) [2,3,4,5,6,7,8,9,10,11,12,13,14,15,16,17,18,19,20,21,22,23,24,25,26,27,28,29,30,31,32,33,34,35,36,37] (fun(k:Nat)=>k<=s.size) (fun(k:Nat)=>s.size - k) (0) (by simp <;> rfl) ?_ ?_ ?_
 .simp
 .simp
 rintro k hk;simp only [aQ,aP];apply aF;refine aZ fun _ _ Z=>?_;simp(disch:=omega);and_intros<;>(try omega);apply Z;refine zI ?_ ?_<;>intro c1<;>try simp at c1
 .apply kB;refine zk [0,3] ?_;refine iU ⟨[],[],[],[],[]⟩ fun all hall _ Z=>?_;have ga4:aK all 4=some 14:=hall 4;have ga10:aK all 10=some 20:=hall 10;have ga16:aK all 16=some 26:=hall 16;have ga22:aK all 22=some 32:=hall 22;refine zs 5 fun _ Y=>?_;simp(disch:=omega)[ga4,ga10,ga16,ga22];and_intros<;>(try omega);apply Y;refine zb 14 ?_ ?_<;>intro g2<;>try simp at g2
  .refine zs 6 fun _ Y=>?_;simp(disch:=omega)[ga4,ga10,ga16,ga22];apply Y;refine zs 6 fun _ Y=>?_;simp(disch:=omega)[ga4,ga10,ga16,ga22];apply Y;refine zs 6 fun _ Y=>?_;simp(disch:=omega)[ga4,ga10,ga16,ga22];apply Y;simp(disch:=omega)[ga4,ga10,ga16,ga22];apply Z;refine aV (t:=true) (by simp) (fun _=>?_) (fun h=>by cases h);refine zk [0,3] ?_;refine aZ fun _ _ Z=>?_;simp(disch:=omega);apply Z;apply aD;simp [aJ]
  refine zs 6 fun _ Y=>?_;simp(disch:=omega)[ga4,ga10,ga16,ga22];and_intros<;>(try omega);apply Y;refine zb 20 ?_ ?_<;>intro g3<;>try simp at g3
  .refine zs 6 fun _ Y=>?_;simp(disch:=omega)[ga4,ga10,ga16,ga22];apply Y;refine zs 6 fun _ Y=>?_;simp(disch:=omega)[ga4,ga10,ga16,ga22];apply Y;simp(disch:=omega)[ga4,ga10,ga16,ga22];apply Z;refine aV (t:=true) (by simp) (fun _=>?_) (fun h=>by cases h);refine zk [0,3] ?_;refine aZ fun _ _ Z=>?_;simp(disch:=omega);apply Z;apply aD;simp [aJ]
  refine zs 6 fun _ Y=>?_;simp(disch:=omega)[ga4,ga10,ga16,ga22];and_intros<;>(try omega);apply Y;refine zb 26 ?_ ?_<;>intro g4<;>try simp at g4
  .refine zs 6 fun _ Y=>?_;simp(disch:=omega)[ga4,ga10,ga16,ga22];apply Y;simp(disch:=omega)[ga4,ga10,ga16,ga22];apply Z;refine aV (t:=true) (by simp) (fun _=>?_) (fun h=>by cases h);refine zk [0,3] ?_;refine aZ fun _ _ Z=>?_;simp(disch:=omega);apply Z;apply aD;simp [aJ]
  refine zs 6 fun _ Y=>?_;simp(disch:=omega)[ga4,ga10,ga16,ga22];and_intros<;>(try omega);apply Y;refine zb 32 ?_ ?_<;>intro g5<;>try simp at g5
  .simp(disch:=omega)[ga4,ga10,ga16,ga22];apply Z;refine aV (t:=true) (by simp) (fun _=>?_) (fun h=>by cases h);refine zk [0,3] ?_;refine aZ fun _ _ Z=>?_;simp(disch:=omega);apply Z;apply aD;simp [aJ]
  simp(disch:=omega)[ga4,ga10,ga16,ga22];and_intros<;>(try omega);apply Z;refine zI ?_ ?_<;>intro c6<;>try simp at c6
  .refine zk [0,3] ?_;refine aZ fun _ _ Z=>?_;simp(disch:=omega);apply Z;apply aD;simp [aJ]
  apply nD;refine zk [0,3] ?_;refine mD fun _ _ Z=>?_;simp(disch:=omega);and_intros<;>(try omega);apply Z;refine zq (k+1) ?_ ?_ ?_
  .omega
  .try dsimp only
   omega
  simp(disch:=omega)
 apply zE;refine aZ fun _ _ Z=>?_;simp(disch:=omega);and_intros<;>(try omega);apply Z;apply aD;simp [aJ]
theorem aOd(s:ByteArray)(σ:List (List D))(hs:s.size<=9999):Ct prog 173 [D.str s] σ (fun r σ'=>(∃b:Bool,r=D.bool b)/\σ'=σ):=by
 refine zf func173 ?_;refine aZ fun _ _ Z=>?_;simp(disch:=omega);apply Z;refine iU ⟨[],[],[],[],[]⟩ fun all hall _ Z=>?_;have ga3:aK all 3=some 6:=hall 3;refine zs 4 fun _ Y=>?_;simp(disch:=omega)[ga3];and_intros<;>(try omega);apply Y;refine zb 6 ?_ ?_<;>intro g1<;>try simp at g1
 .simp(disch:=omega)[ga3];and_intros<;>(try omega);apply Z;apply aD;simp [aJ]
 simp(disch:=omega)[ga3];apply Z;apply aD;simp [aJ]
theorem aBm(q:Nat)(v:VN)(id:Int)(a0 a1 a2 a3 a4 a5 a6 a7 a8 a9 a10 a11 a12 a13 b0 b1 b2 b3 b4 b5 b6 b7 b8 b9 b10 b11:D)(σ:List (List D))(hq:σ[q]?=some [D.int id,a0,a1,a2,a3,a4,a5,a6,a7,a8,a9,a10,a11,a12,a13,b0,b1,b2,b3,b4,b5,b6,b7,b8,b9,b10,b11]):Ct prog 105 [.ref q 0,kJ v] σ (fun r σ'=>r= .tup []/\σ'=σ.set q [D.int id,D.int v.kind,D.str v.tag,D.str v.key,D.str v.text,.sl false (v.classes.map D.str),.sl false (v.attrs.map cY),.sl false (v.styles.map cR),D.int v.opts.enter,D.int v.opts.leave,D.int v.opts.move,D.int v.opts.mode,D.bool v.opts.appear,D.bool v.opts.moves,.sl false [],b0,b1,b2,b3,b4,b5,b6,b7,b8,b9,b10,b11]):=by
 refine zf func105 ?_;refine aZ fun _ _ Z=>?_;simp(disch:=omega)[hq,aN hq];apply Z;refine aZ fun _ _ Z=>?_;simp(disch:=omega)[hq,aN hq];apply Z;refine mD fun _ _ Z=>?_;simp(disch:=omega)[hq,aN hq];apply Z;simp [aJ]
theorem Ob(q l:Nat)(v:VN)(x:LK)(id:Int)(kk d0 d1 d2 d3 d4 d5 d6 d7:D)(σ2:List (List D))(σ:List (List D))(hq:σ[q]?=some [D.int id,D.int v.kind,D.str v.tag,D.str v.key,D.str v.text,.sl false (v.classes.map D.str),.sl false (v.attrs.map cY),.sl false (v.styles.map cR),D.int v.opts.enter,D.int v.opts.leave,D.int v.opts.move,D.int v.opts.mode,D.bool v.opts.appear,D.bool v.opts.moves,kk,D.int x.kind,D.int x.move,D.int x.DX,D.int x.DY,d0,d1,d2,d3,d4,d5,d6,d7])(h1:v.classes.length<=9999)(h2:v.attrs.length<=9999)(h3:v.styles.length<=9999)(hk:¬v.kind=1)(hd:Ct prog 55 [.ref l 0,D.int id,vX (jX x (iX v))] σ (fun r τ=>r=D.int 0/\τ=σ2)):Ct prog 32 [.ref q 0,.ref l 0] σ (fun r σ'=>r= .tup []/\σ'=σ2):=by
 refine zf func32 ?_;have how:vX (iX v)= .agg [.sl false (v.classes.map D.str),.sl false (v.attrs.map cY),.sl false (v.styles.map cR)]:=rfl;refine aZ fun _ _ Z=>?_;simp(disch:=omega)[hq];apply Z;refine zI ?_ ?_<;>intro c1<;>try simp at c1
 .refine zk [0,1] ?_;refine ze ⟨[],[],[],[],[]⟩ [.op {},.op {},.op {},.op {},.op {rO:=true},.op {},.op {},.op {},.op {},.op {rO:=true},.op {},.op {},.op {},.op {},.op {rO:=true},.op {},.op {},.op {},.op {},.op {rO:=true},.op {},.op {},.op {},.op {},.op {rO:=true},.op {},.pure,.det] fun all hall _ Z=>?_;refine lY 8 fun _ Y=>?_;simp(disch:=omega)[hq];apply Y;refine lY 8 fun _ Y=>?_;simp(disch:=omega)[hq];apply Y;refine lY 8 fun _ Y=>?_;simp(disch:=omega)[hq];apply Y;refine lY 2 fun _ Y=>?_;simp(disch:=omega)[hq];apply Y;refine cF fun _ Y=>?_;simp(disch:=omega)[hq];refine Aa (fun _=>(aOc x (iX v) _ h1 h2 h3)) ?_;apply Y;refine cF fun _ Y=>?_;simp(disch:=omega)[hq];refine zdd (hd) ?_;apply Y;simp only [uK];apply Z;simp [aJ]
 exact absurd c1 hk
theorem Qf(q l:Nat)(v:VN)(x:LK)(id:Int)(kk d0 d1 d2 d3 d4 d5 d6 d7:D)(σ:List (List D))(hq:σ[q]?=some [D.int id,D.int v.kind,D.str v.tag,D.str v.key,D.str v.text,.sl false (v.classes.map D.str),.sl false (v.attrs.map cY),.sl false (v.styles.map cR),D.int v.opts.enter,D.int v.opts.leave,D.int v.opts.move,D.int v.opts.mode,D.bool v.opts.appear,D.bool v.opts.moves,kk,D.int x.kind,D.int x.move,D.int x.DX,D.int x.DY,d0,d1,d2,d3,d4,d5,d6,d7])(hk:v.kind=1):Ct prog 32 [.ref q 0,.ref l 0] σ (fun r σ'=>r= .tup []/\σ'=σ):=by
 refine zf func32 ?_;refine aZ fun _ _ Z=>?_;simp(disch:=omega)[hq];apply Z;refine zI ?_ ?_<;>intro c1<;>try simp at c1
 .exact absurd hk c1
 apply wZ;simp [aJ]
def tkR(l:List Int)(rd:Int->TN)(k:Nat):List TN:=(l.take k).map rd
theorem aV3(l:List Int)(rd:Int->TN):tkR l rd 0= []:=rfl
theorem aKq(l:List Int)(rd:Int->TN)(k:Nat)(h:k<l.length):tkR l rd (k+1)=tkR l rd k++ [rd l[k]]:=by unfold tkR;rw [bJ l k h,cZ];rfl
theorem aQm(l:List Int)(rd:Int->TN)(k:Nat):(tkR l rd k).length<=k:=by unfold tkR;rw [bU,bG];omega
theorem aQt(l:List Int)(rd:Int->TN):tkR l rd l.length=l.map rd:=by unfold tkR;rw [dX]
def tnN(n:ND)(id:Int)(ks:List TN):TN:=⟨id,n.kind,n.tag,n.text,n.classes,n.attrs,n.styles,ks⟩
abbrev aCr(m:Nat)(c:Int)(t:TN)(σ:List (List D)):Prop:=Ct prog 33 [.ref m 0,D.int c] σ (fun r σ'=>r= .tup [As t,D.int 0]/\σ'=σ)
theorem Uk(m M:Nat)(d:DS)(id:Int)(n:ND)(rd:Int->TN)(σ:List (List D))(ho:DO m M d σ)(hx:NB d.l)(hl:fO d.l id=true)(hn:aL d.l id=n)(ih:∀c∈n.kids,aCr m c (rd c) σ):Ct prog 33 [.ref m 0,D.int id] σ (fun r σ'=>(r.plain=true/\r.strip= .tup [As (tnN n id (n.kids.map rd)),D.int 0])/\σ'=σ):=by
 refine zf func33 ?_;have b1:=hx.fk id;have b2:=hx.fc id;have b3:=hx.fa id;have b4:=hx.fs id;rw [hn] at b1 b2 b3 b4;refine zr ⟨[50],[],[],[],[]⟩ fun _ _ Z=>?_;simp(disch:=omega)[hl,hn];apply Z;refine zr ⟨[50],[],[],[],[]⟩ fun _ _ Z=>?_;refine zs 2 fun _ Y=>?_;simp(disch:=omega)[hl,hn];apply Y;refine aE fun _ Y=>?_;simp(disch:=omega)[hl,hn];refine bS (aJf m M d id _ ho hx) ?_;apply Y;simp(disch:=omega)[hl,hn];apply Z;apply aF;refine zr ⟨[50],[],[],[],[]⟩ fun _ _ Z=>?_;simp(disch:=omega)[hl,hn];apply Z;refine zI ?_ ?_<;>intro c1<;>try simp at c1
 apply zA;refine zk [0,1,4,5,6] ?_;refine zr ⟨[50],[],[],[],[]⟩ fun _ _ Z=>?_;refine zs 8 fun _ Y=>?_;simp(disch:=omega)[hl,hn];apply Y;simp(disch:=omega)[hl,hn];apply Z;apply aF;refine zk [0,4,5,6,8] ?_;refine zr ⟨[50],[],[],[],[]⟩ fun _ _ Z=>?_;simp(disch:=omega)[hl,hn];and_intros<;>(try omega);apply Z;apply aR;refine zk [0,4,5,8,37,38,39] ?_;refine kS (fun(k:Nat)=> [(39,.d (.v (.int .i64 (k:Int)))),(10,.d (.any)),(43,.d (.any)),(12,.d (.any))]) (fun(k:Nat)=> [(2, [D.int id,D.int n.kind,D.str n.tag,D.str n.text,.sl false (n.classes.map D.str),.sl false (n.attrs.map cY),.sl false (n.styles.map cR),.sl true ((tkR n.kids rd k).map Sp)])]) (fun(k:Nat)=> []) [10,11,12,39,40,41,42,43,44,45,46,47,48,49,50,51,52,53,54,55] (fun(k:Nat)=>k<=n.kids.length) (fun(k:Nat)=>n.kids.length - k) (0) (by simp <;> rfl) ?_ (by simp [aV3]) (by simp) ?_ ?_
 .simp
 .simp
 rintro k hk;simp only [aQ,aP,lL,jP,gO,gA];have htl:=aQm n.kids rd k;refine zr ⟨[50],[],[],[],[]⟩ fun _ _ Z=>?_;simp(disch:=omega)[hl,hn];apply Z;apply aF;refine zI ?_ ?_<;>intro c2<;>try simp at c2
 .apply kB;refine zr ⟨[50],[],[],[],[]⟩ fun _ _ Z=>?_;simp(disch:=omega)[hl,hn];and_intros<;>(try omega);apply Z;refine zk [0,4,5,8,10,12,37,38,39,43] ?_;refine zr ⟨[50],[],[],[],[]⟩ fun _ _ Z=>?_;refine zs 2 fun _ Y=>?_;simp(disch:=omega)[hl,hn];apply Y;refine aE fun _ Y=>?_;simp(disch:=omega)[hl,hn];refine bS (ih n.kids[k] (cJ _)) ?_;apply Y;simp(disch:=omega)[hl,hn];apply Z;refine zk [0,4,5,8,10,11,12,37,38,39,43] ?_;refine zt ⟨[50],[],[],[],[]⟩ fun _ _ Z=>?_;simp(disch:=omega)[hl,hn];and_intros<;>(try omega);apply Z;apply zB;refine zk [0,4,5,8,10,12,37,38,39,43] ?_;refine zt ⟨[50],[],[],[],[]⟩ fun _ _ Z=>?_;simp(disch:=omega)[hl,hn];and_intros<;>(try omega);apply Z;refine eG (k+1) ?_ ?_ (dT rfl ?_ (by simp [aKq, *]) (by simp))
  .omega
  .try dsimp only
   omega
  simp(disch:=omega)[hl,hn]
 obtain rfl:k=n.kids.length:=by omega
 rw [aQt];apply zE;refine zr ⟨[50],[],[],[],[]⟩ fun _ _ Z=>?_;simp(disch:=omega)[hl,hn];apply Z;apply aD;simp [aJ,tnN]
def rF(l:List ND):Nat->Int->TN
 | 0,id=>tnN (aL l id) id []
 | f+1,id=>tnN (aL l id) id ((aL l id).kids.map (rF l f))
theorem aBy {m M:Nat} {d:DS} {rk:Int->Nat} {σ:List (List D)} (ho:DO m M d σ)(hx:NB d.l)(hw:WT d.l rk):∀(f:Nat) (id:Int),rk id<=f->fO d.l id=true->aCr m id (rF d.l f id) σ
 | 0, id, hf, hl => by
  have hk:(aL d.l id).kids= []:=by
   cases e:(aL d.l id).kids with
   | nil=>rfl
   | cons c cs=>
    have:=hw.Dec id c (by rw [e];exact fE);omega
  have:=(Uk m M d id (aL d.l id) (fun c=>rF d.l 0 c) σ ho hx hl rfl fun c hc=>by rw [hk] at hc;cases hc).strip (Q':=fun r σ'=>r= .tup [As (rF d.l 0 id),D.int 0]/\σ'=σ) fun r σ' h=>⟨h.1.1,by rw [h.1.2,hk];rfl,h.2⟩;exact this
 | f + 1, id, hf, hl => by
  have:=(Uk m M d id (aL d.l id) (fun c=>rF d.l f c) σ ho hx hl rfl fun c hc=>aBy ho hx hw f c (by have:=hw.Dec id c hc;omega) (by
   obtain⟨n,n1,n2,n3⟩:=eV hl;rw [n3] at hc;obtain⟨c2,e1,e2, -⟩:=hw.kids n n1 c hc;unfold fO kV;rw [List.find?_isSome];exact⟨c2,e1,by simpa using e2⟩)).strip (Q':=fun r σ'=>r= .tup [As (rF d.l (f+1) id),D.int 0]/\σ'=σ) fun r σ' h=>⟨h.1.1,h.1.2,h.2⟩
  exact this
def aGs(t:TN):TN:=⟨0,t.kind,t.tag,t.text,t.classes,t.attrs,t.styles,t.kids.attach.map fun k=>aGs k.1⟩
termination_by SizeOf.sizeOf t
decreasing_by
 have h:=pA k.2;cases t;simp at h |-;omega
theorem rC(t:TN):aGs t=⟨0,t.kind,t.tag,t.text,t.classes,t.attrs,t.styles,t.kids.map aGs⟩:=by rw [aGs];simp
theorem xR:∀(a b:TN),TB a->aGs a=aGs b->aSk a b
 | a, b, hA, h => by
  rw [rC a,rC b] at h;simp only [TN.mk.injEq,true_and] at h;obtain⟨e1,e2,e3,e4,e5,e6,e7⟩:=h;have hl:b.kids.length=a.kids.length:=by have:=congrArg List.length e7;simpa using this.symm
  have hb:b= { a with ID:=b.ID,kids:=b.kids } :=by
   cases b;simp at e1 e2 e3 e4 e5 e6;simp [e1,e2,e3,e4,e5,e6]
  rw [hb];exact fun σ=>aKi a b.ID b.kids σ hA.s hl fun j h1 h2=>xR a.kids[j] b.kids[j] (hA.k _ (cJ h1)) (by
   have:=congrArg (fun l=>l[j]?) e7;simpa [h1,h2] using this)
termination_by a=>Mx a
decreasing_by
 have:=Xn (cJ h1);omega
inductive TK:VN->Prop
 | mk (v:VN) (h:v.kind=1->v.kids= []) (hk:∀k∈v.kids,TK k):TK v
theorem TK.t (h:TK v):v.kind=1->v.kids= []:=by cases h;assumption
theorem TK.k (h:TK v):∀k∈v.kids,TK k:=by cases h;assumption
end Go.Proofs.YtbgfljpnhhdkoaaGreat
