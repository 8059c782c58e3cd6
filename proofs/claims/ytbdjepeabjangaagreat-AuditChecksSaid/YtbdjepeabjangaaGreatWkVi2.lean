import Derived.Test.YtbdjepeabjangaaGreatWkDr8
set_option linter.all false
set_option maxRecDepth 20000
set_option maxHeartbeats 8000000
open Go.Proofs.Tryz
namespace Go.Proofs.YtbdjepeabjangaaGreat
open Go Go.Vm
variable {j:Nat}{k v:VN}{o:List VN}{α:Type}
def tB(f:FL):VN:=⟨f.kind,qY 20 f.tag,qY 20 f.key,qY 70 f.text,Bb f.classes 4,Dx f.attrs 4,Bw f.styles 4,f.opts, []⟩
abbrev FO(f:FL):Prop:=f.classes.length<=9223372036854775807/\f.attrs.length<=9223372036854775807/\f.styles.length<=9223372036854775807
theorem aFr(f:FL)(σ:List (List D))(h:FO f):Ct prog 35 [Cx f] σ (fun r σ'=>r=jN (tB f)/\∃J,σ'=σ++J):=by
 refine zf func35 ?_;have h5:=h.1;have h6:=h.2.1;have h7:=h.2.2;refine zr ⟨[37],[],[3],[],[]⟩ fun _ _ Z=>?_;simp(disch:=omega)[aL,aD,aI,aA];apply Z;refine zd ⟨[37],[],[3],[],[]⟩ [.op {},.op {rL:=true},.op {},.op {rL:=true},.pure,.op {},.op {rL:=true},.pure,.op {},.op {rL:=true},.pure,.op {},.op {rL:=true},.pure,.op {},.op {rL:=true},.pure,.op {},.op {rL:=true},.op {},.op {rO:=true,wO:=true},.op {rO:=true,wO:=true}] fun all hall _ Z=>?_;refine iK 4 fun _ Y=>?_;simp(disch:=omega)[aL,aD,aI,aA];apply Y;refine bJ fun _ Y=>?_;simp(disch:=omega)[aL,aD,aI,aA];refine pH (fun _=>(tN f.tag 20 _ (by omega))) ?_;apply Y;refine iK 2 fun _ Y=>?_;simp(disch:=omega)[aL,aD,aI,aA];apply Y;refine bJ fun _ Y=>?_;simp(disch:=omega)[aL,aD,aI,aA];refine pH (fun _=>(tN f.key 20 _ (by omega))) ?_;apply Y;refine iK 2 fun _ Y=>?_;simp(disch:=omega)[aL,aD,aI,aA];apply Y;refine bJ fun _ Y=>?_;simp(disch:=omega)[aL,aD,aI,aA];refine pH (fun _=>(tN f.text 70 _ (by omega))) ?_;apply Y;refine iK 2 fun _ Y=>?_;simp(disch:=omega)[aL,aD,aI,aA];apply Y;refine bJ fun _ Y=>?_;simp(disch:=omega)[aL,aD,aI,aA];refine pH (fun _=>(aNs f.classes 4 _ h5 (by omega))) ?_;apply Y;refine iK 2 fun _ Y=>?_;simp(disch:=omega)[aL,aD,aI,aA];apply Y;refine bJ fun _ Y=>?_;simp(disch:=omega)[aL,aD,aI,aA];refine pH (fun _=>(aIh f.styles 4 _ h7 (by omega))) ?_;apply Y;simp(disch:=omega)[aL,aD,aI,aA];and_intros<;>(try omega);apply Z;apply aF;refine zk [1,2,3] ?_;refine zr ⟨[37],[],[3],[],[]⟩ fun _ _ Z=>?_;simp(disch:=omega)[aL,aD,aI,aA];apply Z;apply aN;refine zk [1,2,3,4] ?_;refine eO (fun(k:Nat)=> [(4,.d (.v (.int .i64 (k:Int))))]) (fun(k:Nat)=> []) (fun(k:Nat)=> [(σ.length, [D.int f.kind,D.str (qY 20 f.tag),D.str (qY 20 f.key),D.str (qY 70 f.text),.sl false ((Bb f.classes 4).map D.str),.sl true ((Dx f.attrs k).map cH),.sl false ((Bw f.styles 4).map bY),D.int f.opts.enter,D.int f.opts.leave,D.int f.opts.move,D.int f.opts.mode,D.bool f.opts.appear,D.bool f.opts.moves,.sl true []])]) [4,25,26,27,28,29,30,31,32,33,34,35,36,37,38,39,40,41,42,43,44,45,46,47,48,49,50,51,52,53,54,55] (fun(k:Nat)=>k<=f.attrs.length/\k<=4) (fun(k:Nat)=>f.attrs.length - k) (0) (by simp <;> rfl) ?_ (by simp) (by simp [aD,aN6]) ?_ ?_
 .simp
 .simp
 rintro k ⟨hk,hk4⟩;simp only [aM,aK,dD,cJ,bK,bN];have hfl:=Nh f.attrs k;apply aF;refine oL ⟨[37],[],[3],[],[]⟩ fun all hall _ Z=>?_;have ga5:aQ all 5=some 30:=hall 5;refine zs 6 fun _ Y=>?_;simp(disch:=omega)[aL,aD,aI,aA,ga5];and_intros<;>(try omega);apply Y;refine zb 30 ?_ ?_<;>intro g1<;>try simp at g1
 .simp(disch:=omega)[aL,aD,aI,aA,ga5];apply Z;refine zI ?_ ?_<;>intro c2<;>try simp at c2
  .apply kL;refine zk [1,2,3,4] ?_;refine ze ⟨[37],[],[3],[],[]⟩ [.op {},.op {rO:=true,wO:=true},.op {},.op {rL:=true},.op {},.op {},.op {},.op {},.pure,.op {},.op {rL:=true},.op {},.op {},.op {},.op {},.pure,.op {},.op {},.op {},.op {},.op {rO:=true,wO:=true}] fun all hall _ Z=>?_;refine iK 8 fun _ Y=>?_;simp(disch:=omega)[aL,aD,aI,aA];and_intros<;>(try omega);apply Y;refine bJ fun _ Y=>?_;simp(disch:=omega)[aL,aD,aI,aA];refine pH (fun _=>(tN f.attrs[k].name 20 _ (by omega))) ?_;apply Y;refine iK 6 fun _ Y=>?_;simp(disch:=omega)[aL,aD,aI,aA];and_intros<;>(try omega);apply Y;refine bJ fun _ Y=>?_;simp(disch:=omega)[aL,aD,aI,aA];refine pH (fun _=>(tN f.attrs[k].value 40 _ (by omega))) ?_;apply Y;simp(disch:=omega)[aL,aD,aI,aA];and_intros<;>(try omega);apply Z;apply zB;refine zk [1,2,3,4] ?_;refine zt ⟨[37],[],[3],[],[]⟩ fun _ _ Z=>?_;simp(disch:=omega)[aL,aD,aI,aA];and_intros<;>(try omega);apply Z;refine cQ (k+1) ?_ ?_ (aU rfl ?_ (by simp) (by simp [aAt,aD, *]))
   .omega
   .try dsimp only
    omega
   simp(disch:=omega)[aL,aD,aI,aA]
  apply zE;refine zk [2,3] ?_;refine zr ⟨[37],[],[3],[],[]⟩ fun _ _ Z=>?_;simp(disch:=omega)[aL,aD,aI,aA];apply Z;apply aE;simp [aP,tB];rw [show k=4 by omega]
 simp(disch:=omega)[aL,aD,aI,aA,ga5];apply Z;refine aY (t:=false) (by simp) (fun h=>by cases h) (fun _=>?_);apply zE;refine zk [2,3] ?_;refine zr ⟨[37],[],[3],[],[]⟩ fun _ _ Z=>?_;simp(disch:=omega)[aL,aD,aI,aA];apply Z;apply aE;simp [aP,tB];rw [aHn f.attrs k 4 (by omega) (by omega)]
theorem Kd(N:Nat)(x:ByteArray):Sc N (D.str x):=Sc.v _
theorem Lw(N:Nat)(x:AT):Sc N (cH x):=Sc.agg fun d hd=>by
 simp at hd;rcases hd with rfl | rfl <;> exact Sc.v _
theorem Ka(N:Nat)(x:PI):Sc N (bY x):=Sc.agg fun d hd=>by
 simp at hd;rcases hd with rfl | rfl <;> exact Sc.v _
theorem aJa(N:Nat)(f:FL):Sc N (jN (tB f)):=Sc.agg fun d hd=>by
 simp only [gA,lF,lC] at hd;rcases hd with rfl | rfl | rfl | rfl | rfl | rfl | rfl | rfl | rfl | rfl | rfl | rfl | rfl | rfl <;> first
  | exact Sc.v _
  | exact Sc.sl (Sc.map fun a=>Kd _ a)
  | exact Sc.sl (Sc.map fun a=>Lw _ a)
  | exact Sc.sl (Sc.map fun a=>Ka _ a)
  | exact Sc.sl fun d hd=>by cases hd
theorem Lx(f:FL)(σ:List (List D))(h:FO f):Ct prog 35 [Cx f] σ (fun r σ'=>r=jN (tB f)/\σ'=σ):=
 (aFr f σ h).trim fun r σ' ⟨hr,J,hs⟩=>⟨σ,J,hs,rfl,by rw [hr];exact aJa _ _,fun n cs h=> .inl h,hr,rfl⟩
def fG(v:VN):Nat:=1+(v.kids.attach.map fun k=>fG k.1).sum
termination_by SizeOf.sizeOf v
decreasing_by
 have h:=iQ k.2;cases v;simp at h |-;omega
theorem nS(v:VN):fG v=1+(v.kids.map fG).sum:=by rw [fG];simp
abbrev VF(v:VN):Prop:=v.classes.length<=4/\v.attrs.length<=4/\v.styles.length<=4/\v.text.size<=70/\v.tag.size<=20/\v.key.size<=20/\(∀s∈v.classes,s.size<=20)/\(∀p∈v.attrs,p.name.size<=20/\p.value.size<=40)/\∀p∈v.styles,p.name.size<=20
inductive VG:VN->Prop
 | mk (v:VN) (h:VF v) (hk:∀k∈v.kids,VG k):VG v
theorem Mu(f:FL)(vs:List VN):VF { tB f with kids:=vs } :=by
 refine⟨Pv _ _,Nh _ _,Pf _ _,oA _ _,oA _ _,oA _ _,fun s hs=>?_,fun p hp=>?_,fun p hp=>?_⟩
 .obtain⟨x, -,rfl⟩:=bW.1 hs;exact oA _ _
 .obtain⟨x, -,rfl⟩:=bW.1 hp;exact⟨oA _ _,oA _ _⟩
 obtain⟨x, -,rfl⟩:=bW.1 hp;exact oA _ _
abbrev aLw(l:List FL)(i:Nat)(d:Int):Prop:=∀σ:List (List D),Ct prog 36 [.sl false (l.map Cx),D.int i,D.int d] σ (fun r σ'=>(∃(vs:List VN) (j:Nat),r= .tup [.sl false (vs.map jO),D.int j]/\i<=j/\j<=l.length/\(∀v∈vs,VG v)/\(vs.map fG).sum=j - i)/\σ'=σ)
theorem Nz {β:Type} {n1:α->ByteArray} {n2:β->ByteArray} {f:α->β} (h:∀a,n2 (f a)=n1 a):∀(l:List α) (p:α),(jK n1 l p).map f=jK n2 (l.map f) (f p)
 | [],p=>rfl
 | q::l,p=>by
  simp only [jK,eW,h];split
  .rw [eW,Nz h l p]
  split <;> simp
theorem aJ3 {β:Type} {n1:α->ByteArray} {n2:β->ByteArray} {f:α->β} (h:∀a,n2 (f a)=n1 a)(l:List α):(jD n1 l).map f=jD n2 (l.map f):=by
 have:∀(l o:List α),(l.foldl (jK n1) o).map f=(l.map f).foldl (jK n2) (o.map f):=by
  intro l;induction l with
  | nil=>intro o;rfl
  | cons a l ih=>intro o;simp only [eI,eW];rw [ih,Nz h]
 exact this l []
def wH(l:List AT)(k:Nat):List PI:=(List.range k).map fun i=>⟨(l.getD i ⟨⟨#[]⟩,⟨#[]⟩⟩).name,i⟩
def Ho(l:List AT)(p:PI):AT:=⟨p.name,(l.getD p.value.toNat ⟨⟨#[]⟩,⟨#[]⟩⟩).value⟩
theorem Ym(l:List AT) {k:Nat} (h:k<l.length):wH l (k+1)=wH l k++ [⟨l[k].name,k⟩]:=by
 unfold wH;rw [rP,cX];simp [List.getD,h]
theorem Eo(l:List AT)(k:Nat):(wH l k).length=k:=by simp [wH]
theorem aK9 {nm:α->ByteArray} {l:List α} {x:α} (h:x∈jD nm l):x∈l:=by
 have:∀(l o:List α),x∈l.foldl (jK nm) o->x∈o\/x∈l:=by
  intro l;induction l with
  | nil=>intro o h;exact .inl h
  | cons a l ih =>
   intro o h;rcases ih _ h with h | h
   .rcases Ng nm h with rfl | h
    .exact .inr List.mem_cons_self
    exact .inl h
   exact .inr (List.mem_cons_of_mem _ h)
 rcases this l [] h with h | h
 .cases h
 exact h
theorem aKu {l:List AT} {S:List PI} (hS:jD nP (wH l l.length)=S) (hj:j<S.length):∃i:Nat,∃h:i<l.length,S[j].value=(i:Int)/\Ho l S[j]=l[i]:=by
 have h0:S[j]∈wH l l.length:=by
  have:=bS hj;generalize S[j]=y at this |-;rw [<- hS] at this;exact aK9 this
 generalize S[j]=y at h0 |-;unfold wH at h0;obtain⟨i,hi,e⟩:=bW.1 h0;have hi:=fN.1 hi;refine⟨i,hi,by rw [<- e],?_⟩;rw [<- e];simp [Ho,List.getD,hi]
def Kl(l:List AT)(S:List PI)(j:Nat):List AT:=(S.take j).map (Ho l)
theorem aE4(l:List AT)(S:List PI)(j:Nat):(Kl l S j).length<=j:=by unfold Kl;simp;omega
theorem aA0(l:List AT) {S:List PI} (h:j<S.length) {x:AT} (hx:Ho l S[j]=x):Kl l S (j+1)=Kl l S j++ [x]:=by
 unfold Kl;rw [bB S j h,cX,eW,nI,hx]
theorem aAa(l:List AT):(jD nP (wH l l.length)).map (Ho l)=jD nA l:=by
 rw [aJ3 (n1:=nP) (n2:=nA) (fun _=>rfl)];congr 1;refine Bc (by simp [wH]) fun i h1 h2=>?_;simp [wH,Ho,List.getD,h2]
@[simp] abbrev q44_1:Cfg:=⟨[2,3,6,17,33,42],[],[],[],[]⟩
theorem Xh(l:List AT)(σ:List (List D))(hl:l.length<=9999):Ct prog 109 [.sl false (l.map cH)] σ (fun r σ'=>r= .sl true ((jD nA l).map cH)/\σ'=σ):=by
 refine zf func109 ?_;refine zr q44_1 fun _ _ Z=>?_;simp(disch:=omega);apply Z;refine zr q44_1 fun _ _ Z=>?_;simp(disch:=omega);and_intros<;>(try omega);apply Z;apply aF;refine zr q44_1 fun _ _ Z=>?_;simp(disch:=omega);and_intros<;>(try omega);apply Z;apply aN;refine zk [0,2,3,10,11,12] ?_;refine bA (fun(k:Nat)=> [(12,.d (.v (.int .i64 (k:Int)))),(3,.d (.sl true ((wH l k).map bY))),(4,.d (.any)),(5,.d (.any))]) [3,4,5,12,13,14,15,16,17,18,19,20,21,22,23,24] (fun(k:Nat)=>k<=l.length) (fun(k:Nat)=>l.length - k) (0) (by simp <;> rfl) ?_ ?_ ?_
 .simp [wH]
 .simp
 rintro k hk;simp only [aM,aK];have hnl:=Eo l k;refine zr q44_1 fun _ _ Z=>?_;simp(disch:=omega);apply Z;apply aF;refine zI ?_ ?_<;>intro c1<;>try simp at c1
 .have hnx:=Ym l c1;apply kL;refine zr q44_1 fun _ _ Z=>?_;simp(disch:=omega);and_intros<;>(try omega);apply Z;refine zk [0,2,3,4,5,10,11,12] ?_;refine zt q44_1 fun _ _ Z=>?_;simp(disch:=omega);and_intros<;>(try omega);apply Z;apply zB;refine zk [0,2,3,4,5,10,11,12] ?_;refine zt q44_1 fun _ _ Z=>?_;simp(disch:=omega);and_intros<;>(try omega);apply Z;refine zq (k+1) ?_ ?_ ?_
  .omega
  .try dsimp only
   omega
  simp(disch:=omega)[hnx]
 obtain rfl:k=l.length:=by omega
 apply zE;refine zr q44_1 fun _ _ Z=>?_;simp(disch:=omega);and_intros<;>(try omega);apply Z;apply aF;refine zr q44_1 fun _ _ Z=>?_;refine zs 1 fun _ Y=>?_;simp(disch:=omega);apply Y;refine aG fun _ Y=>?_;simp(disch:=omega);refine dX (aEw (wH l l.length) _ (by rw [Eo];omega)) ?_;obtain⟨S,hS⟩:∃S,jD nP (wH l l.length)=S:=⟨_,rfl⟩;have hSl:S.length<=9999:=by rw [<- hS];have:=lO nP (wH l l.length);rw [Eo] at this;omega
 rw [hS];apply Y;simp(disch:=omega);and_intros<;>(try omega);apply Z;apply aN;refine zk [0,2,6,27,28,29] ?_;refine bA (fun(j:Nat)=> [(29,.d (.v (.int .i64 (j:Int)))),(6,.d (.sl true ((Kl l S j).map cH))),(8,.d (.any))]) [6,8,29,30,31,32,33,34,35,36,37,38,39,40,41] (fun(j:Nat)=>j<=S.length) (fun(j:Nat)=>S.length - j) (0) (by simp <;> rfl) ?_ ?_ ?_
 .simp [Kl]
 .simp
 rintro j hj;simp only [aM,aK];have hsl:=aE4 l S j;refine zr q44_1 fun _ _ Z=>?_;simp(disch:=omega);apply Z;apply aF;refine zI ?_ ?_<;>intro c2<;>try simp at c2
 .obtain⟨i,hil,hiv,hip⟩:=aKu hS c2;have hnx:=aA0 l c2 hip;apply kL;refine zr q44_1 fun _ _ Z=>?_;simp(disch:=omega)[hiv];and_intros<;>(try omega);apply Z;refine zt q44_1 fun _ _ Z=>?_;refine zs 8 fun _ Y=>?_;simp(disch:=omega)[hiv];and_intros<;>(try omega);apply Y;simp(disch:=omega)[hiv];apply Z;apply zB;refine zk [0,2,6,8,27,28,29] ?_;refine zt q44_1 fun _ _ Z=>?_;simp(disch:=omega)[hiv];and_intros<;>(try omega);apply Z;refine zq (j+1) ?_ ?_ ?_
  .omega
  .try dsimp only
   omega
  simp(disch:=omega)[hnx,hiv]
 obtain rfl:j=S.length:=by omega
 have hall:Kl l S S.length=jD nA l:=by unfold Kl;rw [dY,<- hS];exact aAa l
 apply zE;refine zr q44_1 fun _ _ Z=>?_;simp(disch:=omega);apply Z;apply aE;simp [aP,hall]
theorem Pz(l:List FL)(i:Nat)(d:Int)(σ:List (List D))(hl:l.length<=25)(hf:∀f∈l,FO f)(hi:i<=l.length)(ih:∀(i2:Nat) (d2:Int),i<i2->i2<=l.length->aLw l i2 d2):Ct prog 36 [.sl false (l.map Cx),D.int i,D.int d] σ (fun r σ'=>(∃(vs:List VN) (j:Nat),r= .tup [.sl false (vs.map jO),D.int j]/\i<=j/\j<=l.length/\(∀v∈vs,VG v)/\(vs.map fG).sum=j - i)/\σ'=σ):=by
 refine zf func36 ?_;refine zr ⟨[8,41],[],[],[],[]⟩ fun _ _ Z=>?_;simp(disch:=omega);apply Z;refine zr ⟨[8,41],[],[],[],[]⟩ fun _ _ Z=>?_;simp(disch:=omega);apply Z;apply zSB;refine zk [0,1,2,6,7,8] ?_;refine bA (fun(p:List VN×Nat)=> [(8,.d (.sl true (p.1.map jO))),(1,.d (.v (.int .i64 (p.2:Int)))),(9,.d (.any))]) [1,8,9,10,11,12,13,14,15,16,17,18,19,20,21,22,23,24,25,26,27,28,29,30,31,32,33,34,35,36,37,38,39,40,41,42,43,44] (fun(p:List VN×Nat)=>i<=p.2/\p.2<=l.length/\(∀v∈p.1,VG v)/\(p.1.map fG).sum=p.2 - i/\p.1.length<=p.2 - i) (fun(p:List VN×Nat)=>l.length - p.2) (([],i)) (by simp <;> rfl) ?_ ?_ ?_
 .simp
 .simp;omega
 rintro⟨vs,k⟩ ⟨h1,h2,h3,h4,h5⟩;simp only [aM,aK];dsimp only at h1 h2 h3 h4 h5;apply aF;refine zk [0,1,2,6,7,8,9] ?_;refine oL ⟨[8,41],[],[],[],[]⟩ fun all hall _ Z=>?_;have ga4:aQ all 4=some 14:=hall 4;refine zs 5 fun _ Y=>?_;simp(disch:=omega)[ga4];and_intros<;>(try omega);apply Y;refine zb 14 ?_ ?_<;>intro g1<;>try simp at g1
 .simp(disch:=omega)[ga4];and_intros<;>(try omega);apply Z;refine zI ?_ ?_<;>intro c2<;>try simp at c2
  .apply zA;apply aN;refine zk [0,1,2,6,7,8,9] ?_;refine zr ⟨[8,41],[],[],[],[]⟩ fun _ _ Z=>?_;refine zs 4 fun _ Y=>?_;simp(disch:=omega);and_intros<;>(try omega);apply Y;refine aG fun _ Y=>?_;simp(disch:=omega);refine dX (Lx l[k] _ (hf _ (bS _))) ?_;apply Y;simp(disch:=omega);apply Z;refine zk [0,1,2,6,7,8,9] ?_;refine zr ⟨[8,41],[],[],[],[]⟩ fun _ _ Z=>?_;refine zs 8 fun _ Y=>?_;simp(disch:=omega);and_intros<;>(try omega);apply Y;refine aG fun _ Y=>?_;simp(disch:=omega);refine zcm (ih (k+1) l[k].deep (by omega) (by omega) _) ?_;rintro _ τ1 ⟨⟨ws,j,hr,hj1,hj2,hg,hs⟩,hτ⟩;subst hr hτ;apply Y;simp(disch:=omega);apply Z;refine zk [0,1,2,6,7,8,9] ?_;refine zt ⟨[8,41],[],[],[],[]⟩ fun _ _ Z=>?_;simp(disch:=omega);and_intros<;>(try omega);apply Z;apply iV;refine zq ((vs++ [{ tB l[k] with kids:=ws }],j)) ?_ ?_ ?_
   .refine⟨by omega,hj2,fun v hv=>?_,?_,?_⟩
    .rcases dZ.1 hv with hv | hv
     .exact h3 v hv
     rw [iW.1 hv];exact .mk _ (Mu _ _) hg
    .simp only [cX,vC,eW,nI,pO,List.sum_nil,nS { tB l[k] with kids:=ws }];omega
    simp;omega
   .try dsimp only
    omega
   simp(disch:=omega)
  apply zE;refine zk [1,6,7,8] ?_;refine zr ⟨[8,41],[],[],[],[]⟩ fun _ _ Z=>?_;simp(disch:=omega);apply Z;apply aE;simp [aP];exact⟨vs,k,⟨rfl,rfl⟩,h1,h2,h3,h4⟩
 simp(disch:=omega)[ga4];apply Z;refine aY (t:=false) (by simp) (fun h=>by cases h) (fun _=>?_);apply zE;refine zk [1,6,7,8] ?_;refine zr ⟨[8,41],[],[],[],[]⟩ fun _ _ Z=>?_;simp(disch:=omega);apply Z;apply aE;simp [aP];exact⟨vs,k,⟨rfl,rfl⟩,h1,h2,h3,h4⟩
theorem Ds(l:List FL)(hl:l.length<=25)(hf:∀f∈l,FO f):∀(n i:Nat) (d:Int),l.length - i<=n->i<=l.length->aLw l i d
 | 0,i,d,hn,hi=>fun σ=>Pz l i d σ hl hf hi fun i2 d2 h1 h2=>absurd h2 (by omega)
 | n+1,i,d,hn,hi=>fun σ=>Pz l i d σ hl hf hi fun i2 d2 h1 h2=>Ds l hl hf n i2 d2 (by omega) h2
def Bo:VN:=⟨2,⟨#[112]⟩,⟨#[]⟩,⟨#[]⟩, [], [], [],⟨0,0,0,0,false,false⟩, []⟩
theorem aCe:VG Bo:= .mk _ ⟨by decide,by decide,by decide,by decide+kernel,by decide+kernel,by decide+kernel,(fun s h=>by cases h),(fun p h=>by cases h),(fun p h=>by cases h)⟩ fun k hk=>by cases hk
theorem aDg:fG Bo<=25:=by rw [nS];decide
theorem aMq(f:FL)(ws:List VN)(j:Nat)(hg:∀v∈ws,VG v)(hs:(ws.map fG).sum=j - 1)(hj:j<=25)(h1:1<=j):VG { tB f with kids:=ws } /\fG { tB f with kids:=ws } <=25:=by
 refine⟨.mk _ (Mu _ _) hg,?_⟩;rw [nS];simp only [];omega
theorem aD6(l:List FL)(n:Nat)(σ:List (List D))(hn:n<=25)(hl:l.length<=9223372036854775807)(hf:∀f∈l,FO f):Ct prog 13 [.sl false (l.map Cx),D.int n] σ (fun r σ'=>(r.plain=true/\∃v:VN,r.strip=jN v/\VG v/\fG v<=25)/\σ'=σ):=by
 refine zf func13 ?_;refine bT fun _ _ Z=>?_;simp(disch:=omega);apply Z;apply aF;refine bT fun _ _ Z=>?_;simp(disch:=omega);and_intros<;>(try omega);apply Z;refine zI ?_ ?_<;>intro c1<;>try simp at c1
 .refine tD fun _ _ Z=>?_;simp(disch:=omega);and_intros<;>(try omega);apply Z;apply iE;apply aF;rw [<- sF];obtain⟨L,hL⟩:∃L,L=l.take n:=⟨_,rfl⟩;rw [<- hL];have hLl:L.length<=25:=by rw [hL,bF];omega
  have hLf:∀f∈L,FO f:=by rw [hL];exact fun f hf2=>hf f (mW hf2)
  refine bT fun _ _ Z=>?_;simp(disch:=omega);and_intros<;>(try omega);apply Z;refine zI ?_ ?_<;>intro c2<;>try simp at c2
  .refine zk [0,4] ?_;refine bT fun _ _ Z=>?_;simp(disch:=omega);apply Z;apply aE;simp [aP];exact⟨Bo,by simp [Bo],aCe,aDg⟩
  apply zA;have hL0:0<L.length:=by
   rcases L with _ | ⟨a,b⟩
   .first | (simp at c2;done) | (simp at c3;done)
   simp
  refine zk [0,4] ?_;refine bT fun _ _ Z=>?_;refine zs 3 fun _ Y=>?_;simp(disch:=omega);and_intros<;>(try omega);apply Y;refine aG fun _ Y=>?_;simp(disch:=omega);refine dX (Lx L[0] _ (hLf _ (bS _))) ?_;apply Y;simp(disch:=omega);apply Z;refine bT fun _ _ Z=>?_;refine zs 5 fun _ Y=>?_;simp(disch:=omega);and_intros<;>(try omega);apply Y;refine aG fun _ Y=>?_;simp(disch:=omega);refine zcm (Ds L hLl hLf 25 1 L[0].deep (by omega) (by omega) _) ?_;rintro _ τ1 ⟨⟨ws,j,hr,hj1,hj2,hg,hs⟩,hτ⟩;subst hr hτ;apply Y;simp(disch:=omega);apply Z;refine zk [4,5] ?_;refine bT fun _ _ Z=>?_;simp(disch:=omega);apply Z;apply aE;simp [aP];exact⟨{ tB L[0] with kids:=ws },by simp,aMq _ ws j hg hs (by omega) (by omega)⟩
 apply zA;apply aF;obtain⟨L,hL⟩:∃L,L=l:=⟨_,rfl⟩;have hLl:L.length<=25:=by rw [hL];omega
 have hLf:∀f∈L,FO f:=by rw [hL];exact hf
 rw [<- hL];refine bT fun _ _ Z=>?_;simp(disch:=omega);and_intros<;>(try omega);apply Z;refine zI ?_ ?_<;>intro c3<;>try simp at c3
 .refine bT fun _ _ Z=>?_;simp(disch:=omega);apply Z;apply aE;simp [aP];exact⟨Bo,by simp [Bo],aCe,aDg⟩
 apply zA;have hL0:0<L.length:=by
  rcases L with _ | ⟨a,b⟩
  .first | (simp at c2;done) | (simp at c3;done)
  simp
 refine bT fun _ _ Z=>?_;refine zs 3 fun _ Y=>?_;simp(disch:=omega);and_intros<;>(try omega);apply Y;refine aG fun _ Y=>?_;simp(disch:=omega);refine dX (Lx L[0] _ (hLf _ (bS _))) ?_;apply Y;simp(disch:=omega);apply Z;refine zk [0,4,5] ?_;refine bT fun _ _ Z=>?_;refine zs 5 fun _ Y=>?_;simp(disch:=omega);and_intros<;>(try omega);apply Y;refine aG fun _ Y=>?_;simp(disch:=omega);refine zcm (Ds L hLl hLf 25 1 L[0].deep (by omega) (by omega) _) ?_;rintro _ τ1 ⟨⟨ws,j,hr,hj1,hj2,hg,hs⟩,hτ⟩;subst hr hτ;apply Y;simp(disch:=omega);apply Z;refine zk [4,5] ?_;refine bT fun _ _ Z=>?_;simp(disch:=omega);apply Z;apply aE;simp [aP];exact⟨{ tB L[0] with kids:=ws },by simp,aMq _ ws j hg hs (by omega) (by omega)⟩
theorem Vw(l:List FL)(n:Nat)(σ:List (List D))(hn:n<=25)(hl:l.length<=9223372036854775807)(hf:∀f∈l,FO f):Ct prog 13 [.sl false (l.map Cx),D.int n] σ (fun r σ'=>(∃v:VN,r=jN v/\VG v/\fG v<=25)/\σ'=σ):=
 (aD6 l n σ hn hl hf).strip fun r σ' h=>⟨h.1.1,h.1.2,h.2⟩
def cV(v:VN):List D:= [D.int v.kind,D.str v.tag,D.str v.key,D.str v.text,.sl false (v.classes.map D.str),.sl false (v.attrs.map cH),.sl false (v.styles.map bY),D.int v.opts.enter,D.int v.opts.leave,D.int v.opts.move,D.int v.opts.mode,D.bool v.opts.appear,D.bool v.opts.moves,.sl false (v.kids.map jO)]
theorem aQx(v:VN):(jO v).cells=cV v:=by rw [Kk];rfl
theorem nJ(l:List VN):(l.map jO).flatMap D.cells=l.flatMap cV:=dI aQx l
theorem tU(l:List VN):∀d∈l.map jO,d.ncells=14/\d.arr=true:=by
 intro d hd;obtain⟨a,_,rfl⟩:=bW.1 hd;rw [Kk];exact⟨rfl,rfl⟩
@[simp high] theorem Ih(l:List VN):(l.flatMap cV).length=l.length * 14:=dM (f:=cV) (fun _=>rfl) l
theorem aL6(l:List VN)(rest:List D)(i j:Nat)(h:i<l.length)(hj:j<14):(l.flatMap cV++rest)[i * 14+j]?=(cV l[i])[j]?:=Jh (f:=cV) (k:=14) (fun _=>rfl) l rest i j h hj
def txt(v:VN)(s:ByteArray):VN:= { v with text:=s }
theorem aP9(l:List VN)(rest:List D)(i:Nat)(s:ByteArray)(h:i<l.length):(l.flatMap cV++rest).set (i * 14+3) (D.str s)=(l.set i (txt l[i] s)).flatMap cV++rest:=by
 have hp:=mG (f:=cV) (k:=14) (fun _=>rfl) l i h;rw [pU (f:=cV) l i h,pU (f:=cV) (l.set i (txt l[i] s)) i (by simpa using h),List.take_set_of_le (bG _),List.drop_set_of_lt (by omega),List.getElem_set_self];rw [bU,bU,bU,bU,<- hp,kH _ _ (by omega)];congr 1;rw [lD];rfl
def jB(k:VN):Bool:= !(decide (k.kind=1) && decide (k.text=⟨#[]⟩))
def mS(out:List VN)(k:VN):List VN:=match out.getLast? with
 | some p=>if p.kind=1/\k.kind=1 then out.set (out.length - 1) (txt p (p.text++k.text))else out++ [k]
 | none=>out++ [k]
def gZ(l:List VN):List VN:=l.foldl mS []
theorem uC(l:List VN)(k:VN):gZ (l++ [k])=mS (gZ l) k:=by unfold gZ;rw [kI];rfl
theorem Hy(o:List VN)(k:VN):(mS o k).length<=o.length+1:=by
 unfold mS;split
 .split <;> simp
 simp
theorem lW (h:∀h:0<o.length,¬(o[o.length - 1].kind=1/\k.kind=1)):mS o k=o++ [k]:=by
 unfold mS;split
 .rename_i p hp;rw [Is] at hp;obtain⟨h1,h2⟩:=aJ.1 hp;rw [aH];rw [<- h2];exact h (by omega)
 rfl
theorem xD (h:0<o.length)(h1:o[o.length - 1].kind=1)(h2:k.kind=1):mS o k=o.set (o.length - 1) (txt o[o.length - 1] (o[o.length - 1].text++k.text)):=by
 unfold mS;rw [Is,aS (by omega)];simp only [h1,h2,and_self,aO]
def eR(v:VN):VN:= { v with classes:=lY v.classes,attrs:=jD nA v.attrs,styles:=jD nP v.styles,kids:=gZ ((v.kids.attach.map fun k=>eR k.1).filter jB) }
termination_by SizeOf.sizeOf v
decreasing_by
 have h:=iQ k.2;cases v;simp at h |-;omega
theorem lL(v:VN):eR v= { v with classes:=lY v.classes,attrs:=jD nA v.attrs,styles:=jD nP v.styles,kids:=gZ ((v.kids.map eR).filter jB) } :=by
 rw [eR];simp
theorem Ta(v:VN):(eR v).kind=v.kind:=by rw [lL]
theorem qA(v:VN):(eR v).text=v.text:=by rw [lL]
theorem Zx(v:VN):jB (eR v)=jB v:=by unfold jB;rw [Ta,qA]
theorem Hg {B C:Nat} (ho:∀x∈o,x.text.size<=B)(hk:k.text.size<=C):∀x∈mS o k,x.text.size<=B+C:=by
 intro x hx;unfold mS at hx;have hq:∀y,y∈o++ [k]->y.text.size<=B+C:=fun y hy=>by
  rcases dZ.1 hy with h | h
  .have:=ho y h;omega
  rw [iW.1 h];omega
 split at hx
 .rename_i p hp;split at hx
  .rcases Jp hx with h | h
   .have:=ho x h;omega
   rw [h];have hm:p∈o:=List.mem_of_getLast? hp;have:=ho p hm;simp only [txt,ByteArray.size_append];omega
  exact hq x hx
 exact hq x hx
def Ge(v:VN)(j:Nat):List VN:=gZ (((v.kids.take j).map eR).filter jB)
theorem aEm(v:VN):Ge v 0= []:=rfl
theorem Dk(v:VN):∀j,(Ge v j).length<=j
 | 0=>by simp [aEm]
 | j + 1 => by
  by_cases h:j<v.kids.length
  .unfold Ge;rw [bB _ _ h,cX,cT,eW,nI];by_cases hk:jB (eR v.kids[j])=true
   .rw [zZ hk,lU,uC];have:=Hy (gZ (((v.kids.take j).map eR).filter jB)) (eR v.kids[j]);have:=Dk v j;unfold Ge at this;omega
   rw [Ab hk,lU,iC];have:=Dk v j;unfold Ge at this;omega
  have h1:=Dk v j;unfold Ge at h1 |-;rw [bZ (by omega)] at h1 |-;omega
theorem Nj (h:j<v.kids.length)(hk:jB (eR v.kids[j])=false):Ge v (j+1)=Ge v j:=by
 unfold Ge;rw [bB _ _ h,cX,cT,eW,nI,Ab (by simp [hk]),lU,iC]
theorem uA (h:j<v.kids.length)(hk:jB (eR v.kids[j])=true):Ge v (j+1)=mS (Ge v j) (eR v.kids[j]):=by
 unfold Ge;rw [bB _ _ h,cX,cT,eW,nI,zZ hk,lU,uC]
theorem Ux {B:Nat} (h:∀k∈v.kids,k.text.size<=B):∀j,j<=v.kids.length->∀k∈Ge v j,k.text.size<=j * B
 | 0,_=>fun k hk=>by rw [aEm] at hk;cases hk
 | j + 1, hj => fun k hk => by
  have ih:=Ux h j (by omega);have eB:(j+1) * B=j * B+B:=pQ j B;rw [eB];cases e:jB (eR v.kids[j])with
  | false=>rw [Nj (by omega) e] at hk;have:=ih k hk;omega
  | true=>
   rw [uA (by omega) e] at hk;exact Hg ih (by rw [qA];exact h _ (bS _)) k hk
theorem aJ4(v:VN):Ge v v.kids.length=(eR v).kids:=by rw [lL];unfold Ge;rw [dY]
end Go.Proofs.YtbdjepeabjangaaGreat
