import Derived.Test.YtbdjepeabjangaaGreatWkAu6
set_option linter.all false
set_option maxRecDepth 20000
set_option maxHeartbeats 8000000
open Go.Proofs.Tryz
namespace Go.Proofs.YtbdjepeabjangaaGreat
open Go Go.Vm
variable {k:Nat}{p:List PDG}{t:TN}
abbrev Zu(v:VN):Prop:=∀σ:List (List D),Ct prog 97 [kM v] σ (fun r σ'=>r=iQ (Fh v)/\σ'=σ)
def iS(t:TN)(id:Int):Option TN:=if t.ID=id then some t else t.kids.attach.findSome? fun k=>iS k.1 id
termination_by SizeOf.sizeOf t
decreasing_by
 have h:=iC k.2;cases t;simp at h |-;omega
theorem wD(t:TN)(id:Int):iS t id=if t.ID=id then some t else t.kids.findSome? fun k=>iS k id:=by
 rw [iS,aIo t.kids fun k=>iS k id]
theorem Vb {id:Int} (h:t.ID=id):iS t id=some t:=by rw [wD,aR h]
theorem Uc {id:Int} {j:Nat} (h0:¬t.ID=id)(hh:∀k∈t.kids.take j,iS k id=none)(h:j<t.kids.length) {u:TN} (h1:iS t.kids[j] id=some u):iS t id=some u:=by
 rw [wD,aG h0];have e:t.kids=t.kids.take j++t.kids[j]::t.kids.drop (j+1):=by rw [<- xM h,gL]
 rw [e,List.findSome?_append,Gj.2 hh,List.findSome?_cons,h1];rfl
theorem Zi {id:Int} (h0:¬t.ID=id)(hh:∀k∈t.kids,iS k id=none):iS t id=none:=by
 rw [wD,aG h0,Gj.2 hh]
def Bn(t:TN)(id:Int):TN:=(iS t id).getD zT
def Qe(t:TN)(id:Int):Bool:=(iS t id).isSome
theorem aDn {id:Int} (h:Qe t id=false):iS t id=none:=by unfold Qe at h;simpa using h
theorem Qi {id:Int} (h:Qe t id=true):iS t id=some (Bn t id):=by unfold Qe at h;unfold Bn;cases e:iS t id with
 | none=>rw [e] at h;cases h
 | some u=>rfl
abbrev Xo(t:TN):List D:= [D.int t.ID,D.int t.kind,D.str t.tag,D.str t.text,.sl false (t.classes.map D.str),.sl false (t.attrs.map cD),.sl false (t.styles.map bV),.sl false (t.kids.map mQ)]
abbrev aLv(O:Nat)(id:Int)(t:TN):Prop:=∀(u:TN) (σ:List (List D)),σ[O]?=some (Xo u)->Ct prog 84 [iQ t,.clo (.func 98) [] [.adr [D.int id],.ref O 0]] σ (fun r σ'=>r= .bool (!Qe t id)/\σ'=σ.set O (Xo ((iS t id).getD u)))
theorem Ur {l:List TN} {id:Int} (hk:k<l.length)(hh:∀x∈l.take k,iS x id=none)(h:iS l[k] id=none):∀x∈l.take (k+1),iS x id=none:=fun x hx=>by
 rw [bM l k hk] at hx;rcases dZ.1 hx with hx | hx
 .exact hh x hx
 rw [iM.1 hx];exact h
theorem aAo {l:List TN} {id:Int} (hk:l.length<=k)(hh:∀x∈l.take k,iS x id=none):∀x∈l,iS x id=none:=by rwa [bW hk] at hh
theorem Wk(v:VN)(σ:List (List D))(h:VSz v)(ih:∀k∈v.kids,Zu k):Ct prog 97 [kM v] σ (fun r σ'=>(r.plain=true/\r.strip=iQ (Fh v))/\∃J,σ'=σ++J):=by
 refine zf func97 ?_;obtain⟨h1,h2,h3,h4,h5⟩:=h;refine zr ⟨[32],[],[3],[],[]⟩ fun _ _ Z=>?_;simp(disch:=omega)[aB,aA];apply Z;apply aE;refine zr ⟨[32],[],[3],[],[]⟩ fun _ _ Z=>?_;simp(disch:=omega)[aB,aA];apply Z;refine zI ?_ ?_<;>intro c1<;>try simp at c1
 .refine zr ⟨[32],[],[3],[],[]⟩ fun _ _ Z=>?_;simp(disch:=omega)[aB,aA];apply Z;apply aC;simp [aT];rw [Nw,aR c1];simp
 apply zA;refine zk [1,2] ?_;refine zd ⟨[32],[],[3],[],[]⟩ [.op {},.op {rL:=true},.op {},.op {rL:=true},.pure,.op {},.op {rL:=true},.pure,.op {},.op {rL:=true},.pure,.op {},.op {rO:=true,wO:=true},.op {rO:=true,wO:=true}] fun all hall _ Z=>?_;refine kY 4 fun _ Y=>?_;simp(disch:=omega)[aB,aA];apply Y;refine bJ fun _ Y=>?_;simp(disch:=omega)[aB,aA];refine rG (fun _=>(wR v.classes _ (by omega))) ?_;apply Y;refine kY 2 fun _ Y=>?_;simp(disch:=omega)[aB,aA];apply Y;refine bJ fun _ Y=>?_;simp(disch:=omega)[aB,aA];refine rG (fun _=>(xV v.attrs _ (by omega))) ?_;apply Y;refine kY 2 fun _ Y=>?_;simp(disch:=omega)[aB,aA];apply Y;refine bJ fun _ Y=>?_;simp(disch:=omega)[aB,aA];refine rG (fun _=>(xX v.styles _ (by omega))) ?_;apply Y;simp(disch:=omega)[aB,aA];and_intros<;>(try omega);apply Z;apply aE;refine zk [1,2,3] ?_;refine zr ⟨[32],[],[3],[],[]⟩ fun _ _ Z=>?_;simp(disch:=omega)[aB,aA];and_intros<;>(try omega);apply Z;apply aQ;refine zk [2,3,25,26,27] ?_;refine fP (fun(j:Nat)=> [(27,.d (.v (.int .i64 (j:Int)))),(5,.d (.any))]) (fun(j:Nat)=> []) (fun(j:Nat)=> [(σ.length, [D.int 0,D.int 2,D.str v.tag,D.str ⟨#[]⟩,.sl false (v.classes.map D.str),.sl false (v.attrs.map cD),.sl false (v.styles.map bV),.sl true ((tkO v.kids j).map mQ)])]) [5,27,28,29,30,31,32,33,34,35,36,37,38] (fun(j:Nat)=>j<=v.kids.length) (fun(j:Nat)=>v.kids.length - j) (0) (by simp <;> rfl) ?_ (by simp) (by simp [aB,aK1]) ?_ ?_
 .simp
 .simp
 rintro j hj;simp only [aO,aK,eM,dS,bZ,cN];have htl2:=aFx v.kids j;refine zr ⟨[32],[],[3],[],[]⟩ fun _ _ Z=>?_;simp(disch:=omega)[aB,aA];apply Z;apply aE;refine zI ?_ ?_<;>intro c2<;>try simp at c2
 .apply mT;refine zr ⟨[32],[],[3],[],[]⟩ fun _ _ Z=>?_;simp(disch:=omega)[aB,aA];and_intros<;>(try omega);apply Z;refine ze ⟨[32],[],[3],[],[]⟩ [.op {},.op {rO:=true,wO:=true},.op {rL:=true},.pure,.op {},.op {},.op {},.op {rO:=true,wO:=true}] fun all hall _ Z=>?_;refine kY 3 fun _ Y=>?_;simp(disch:=omega)[aB,aA];apply Y;refine bJ fun _ Y=>?_;simp(disch:=omega)[aB,aA];refine rG (fun _=>(ih v.kids[j] (cR _) _)) ?_;apply Y;simp(disch:=omega)[aB,aA];and_intros<;>(try omega);apply Z;apply zB;refine zk [2,3,5,25,26,27] ?_;refine zt ⟨[32],[],[3],[],[]⟩ fun _ _ Z=>?_;simp(disch:=omega)[aB,aA];and_intros<;>(try omega);apply Z;refine eL (j+1) ?_ ?_ (bT rfl ?_ (by simp) (by simp [aCh, *]))
  .omega
  .try dsimp only
   omega
  simp(disch:=omega)[aB,aA]
 obtain rfl:j=v.kids.length:=by omega
 rw [aEt];apply zE;refine zr ⟨[32],[],[3],[],[]⟩ fun _ _ Z=>?_;simp(disch:=omega)[aB,aA];apply Z;apply aC;simp [aT];rw [Nw,aG c1];simp
theorem Ll(v:VN)(h:VB v):Zu v:=fun σ=>
 have h1:Ct prog 97 [kM v] σ (fun r σ'=>r=iQ (Fh v)/\∃J,σ'=σ++J):=(Wk v σ h.s fun k hk=>Ll k (h.k k hk)).strip fun r σ' h=>⟨h.1.1,h.1.2,h.2⟩
 h1.trim fun r σ' ⟨hr,J,hs⟩=>⟨σ,J,hs,rfl,by rw [hr];exact Ju _ _,fun n cs h=> .inl h,hr,rfl⟩
termination_by fB v
decreasing_by
 have:=iL hk;omega
theorem aGd(v:VN)(σ:List (List D))(h:VG v)(hc:fB v<=100):Ct prog 56 [kM v] σ (fun r σ'=>(r.plain=true/\r.strip=iQ (Fh (gG v)))/\σ'=σ):=by
 refine zf func56 ?_;refine cL fun _ _ Z=>?_;simp(disch:=omega);apply Z;refine cL fun _ _ Z=>?_;refine zs 1 fun _ Y=>?_;simp(disch:=omega);apply Y;refine aD fun _ Y=>?_;simp(disch:=omega);refine eH (Hy v h (by omega) _) ?_;apply Y;refine aD fun _ Y=>?_;simp(disch:=omega);refine eH (Ll (gG v) (Pu h hc) _) ?_;apply Y;simp(disch:=omega);apply Z;apply aC;simp [aT]
theorem Xu(t u:TN)(id:Int)(O:Nat)(σ:List (List D))(hO:σ[O]?=some (Xo u)):Ct prog 98 [iQ t,.adr [D.int id],.ref O 0] σ (fun r σ'=>r= .bool (!decide (t.ID=id))/\σ'=σ.set O (Xo (if t.ID=id then t else u))):=by
 refine zf func98 ?_;simp only [Xo] at hO;refine cL fun _ _ Z=>?_;simp(disch:=omega)[hO,eI hO];apply Z;apply aE;refine cL fun _ _ Z=>?_;simp(disch:=omega)[hO,eI hO];apply Z;refine zI ?_ ?_<;>intro c1<;>try simp at c1
 .refine Dd fun _ _ Z=>?_;simp(disch:=omega)[hO,eI hO];apply Z;apply kI;refine cL fun _ _ Z=>?_;simp(disch:=omega)[hO,eI hO];apply Z;apply aC;subst c1;simp [aT,Xo]
 apply zA;refine cL fun _ _ Z=>?_;simp(disch:=omega)[hO,eI hO];apply Z;apply aC;simp [aT,c1];exact(mY hO).symm
theorem Wo(t u:TN)(id:Int)(O:Nat)(σ:List (List D))(h:t.kids.length<=9999)(hO:σ[O]?=some (Xo u))(ih:∀k∈t.kids,aLv O id k):Ct prog 84 [iQ t,.clo (.func 98) [] [.adr [D.int id],.ref O 0]] σ (fun r σ'=>r= .bool (!Qe t id)/\σ'=σ.set O (Xo ((iS t id).getD u))):=by
 refine zf func84 ?_;refine cL fun _ _ Z=>?_;simp(disch:=omega);apply Z;apply aE;refine cL fun _ _ Z=>?_;refine zs 2 fun _ Y=>?_;simp(disch:=omega);apply Y;refine aD fun _ Y=>?_;simp(disch:=omega);refine eH (Xu t u id O _ hO) ?_;apply Y;simp(disch:=omega);apply Z;refine zI ?_ ?_<;>intro c1<;>try simp at c1
 .refine cL fun _ _ Z=>?_;simp(disch:=omega);apply Z;apply aC;have e:=Vb c1;simp [aT,Qe,e,c1]
 apply zA;apply aE;refine cL fun _ _ Z=>?_;simp(disch:=omega);and_intros<;>(try omega);apply Z;apply aQ;refine zk [1,4,12,13,14] ?_;refine qD (fun(j:Nat)=> [(14,.d (.v (.int .i64 (j:Int)))),(6,.d (.any))]) (fun(j:Nat)=> [Xo t]) (fun(j:Nat)=>σ.set O (Xo u)) [4,6,14,15,16,17,18,19,20,21,22] (fun(j:Nat)=>j<=t.kids.length/\∀k∈t.kids.take j,iS k id=none) (fun(j:Nat)=>t.kids.length - j) (0) (by simp <;> rfl) ?_ (by simp) (by simp [c1]) ?_ ?_
 .simp
 .simp
 rintro j ⟨hj,hh⟩;simp only [aO,aK];refine cL fun _ _ Z=>?_;simp(disch:=omega);apply Z;apply aE;refine zI ?_ ?_<;>intro c2<;>try simp at c2
 .apply mT;refine cL fun _ _ Z=>?_;simp(disch:=omega);and_intros<;>(try omega);apply Z;refine cL fun _ _ Z=>?_;refine zs 2 fun _ Y=>?_;simp(disch:=omega);apply Y;refine aD fun _ Y=>?_;simp(disch:=omega);have hO2:=eI hO (Xo u);refine eH (ih t.kids[j] (cR _) u _ hO2) ?_;apply Y;simp(disch:=omega);apply Z;refine zI ?_ ?_<;>intro c3<;>try simp at c3
  .refine zk [1,6,12,13,14] ?_;refine cL fun _ _ Z=>?_;simp(disch:=omega);apply Z;apply aC;have e:=Uc c1 hh c2 (Qi c3);have e4:=Qi c3;simp [aT,Qe,e,e4]
  apply rK;refine zk [1,6,12,13,14] ?_;refine Dd fun _ _ Z=>?_;simp(disch:=omega);and_intros<;>(try omega);apply Z;refine eL (j+1) ?_ ?_ (bT rfl ?_ (by simp) (by simp [aDn (t:=t.kids[j]) (id:=id) (by simpa using c3)]))
  .exact⟨by omega,Ur (by omega) hh (aDn (by simpa using c3))⟩
  .try dsimp only
   omega
  simp(disch:=omega)
 apply zE;refine cL fun _ _ Z=>?_;simp(disch:=omega);apply Z;apply aC;have e:=Zi c1 (aAo (by omega) hh);simp [aT,Qe,e]
theorem Jy(O:Nat)(id:Int)(t:TN)(h:TB t):aLv O id t:=fun u σ hO=>Wo t u id O σ h.s.2.2.2 hO fun k hk=>Jy O id k (h.k k hk)
termination_by jJ t
decreasing_by
 have:=jR hk;omega
theorem Wc(t:TN)(id:Int)(σ:List (List D))(h:TB t):Ct prog 57 [iQ t,D.int id] σ (fun r σ'=>r= .tup [iQ (Bn t id),.bool (Qe t id)]/\∃J,σ'=σ++J):=by
 refine zf func57 ?_;refine zr ⟨[],[3],[6],[],[]⟩ fun _ _ Z=>?_;simp(disch:=omega)[aB,aA];apply Z;refine zr ⟨[],[3],[6],[],[]⟩ fun _ _ Z=>?_;simp(disch:=omega)[aB,aA];and_intros<;>(try omega);apply Z;refine kC σ.length (Xo zT) (by simp [aB];rfl) (by simp [Ss,D.s1,zT]) ?_;simp only [aA,bZ];refine zr ⟨[],[3],[6],[],[]⟩ fun _ _ Z=>?_;refine zs 2 fun _ Y=>?_;simp(disch:=omega)[aB,aA];and_intros<;>(try omega);apply Y;refine aD fun _ Y=>?_;simp(disch:=omega)[aB,aA];refine eH (Jy σ.length id t h zT _ (by simp [aB])) ?_;apply Y;simp(disch:=omega)[aB,aA];apply Z;refine zr ⟨[],[3],[6],[],[]⟩ fun _ _ Z=>?_;simp(disch:=omega)[aB,aA];apply Z;apply aC;simp [aT,Bn,Qe]
theorem Rt {N:Nat} {a b:D} (h1:Sc N a)(h2:Sc N b):Sc N (.tup [a,b]):=Sc.tup fun d hd=>by
 simp only [fQ,kA,kD] at hd;rcases hd with rfl | rfl
 .exact h1
 exact h2
theorem Ze(t:TN)(id:Int)(σ:List (List D))(h:TB t):Ct prog 57 [iQ t,D.int id] σ (fun r σ'=>r= .tup [iQ (Bn t id),.bool (Qe t id)]/\σ'=σ):=
 (Wc t id σ h).trim fun r σ' ⟨hr,J,hs⟩=>⟨σ,J,hs,rfl,by rw [hr];exact Rt (Ju _ _) (Sc.v _),fun n cs h=> .inl h,hr,rfl⟩
def Sx(t:TN)(k:Nat):Ls:=(t.classes.take k).filter oK
def aDa(t:TN):Ls:=t.classes.filter oK
theorem aLa(t:TN):Sx t 0= []:=rfl
theorem aGw(t:TN)(k:Nat):(Sx t k).length<=k:=by unfold Sx;have:=gU oK (t.classes.take k);simp at this |-;omega
theorem aGs (h:k<t.classes.length)(hg:oK t.classes[k]=true):Sx t (k+1)=Sx t k++ [t.classes[k]]:=by unfold Sx;rw [bM _ _ h,eW];simp [hg]
theorem aIn (h:k<t.classes.length)(hg:oK t.classes[k]=false):Sx t (k+1)=Sx t k:=by unfold Sx;rw [bM _ _ h,eW];simp [hg]
theorem aGp(t:TN):Sx t t.classes.length=aDa t:=by unfold Sx;rw [gC];rfl
def Uf(t:TN)(c:ByteArray)(want:Int)(away:Bool):Bool:=(sE nP t.styles c==away) && (!away || decide (Bp t.styles c=want))
def Cr(t:TN)(l:LK):Bool:=decide (aDa t=oR l) && Uf t mDx l.DX (decide (l.move=1)) && Uf t mDy l.DY (decide (l.move=1))
def wA(l:LK):List AWT:=if l.kind=2\/l.kind=5 then [⟨1,true⟩] else if l.kind=3\/l.kind=6 then [⟨1,false⟩] else []
def wM(l:LK):List AWT:=if l.move=1 then [⟨2,true⟩] else if l.move=2 then [⟨2,false⟩] else []
def iG(l:LK):List AWT:=wA l++wM l
theorem Nr(l:LK):(iG l).length<=2:=by unfold iG wA wM;(repeat' split) <;> simp
def Ag(p:List PDG)(id kd:Int)(i:Nat):List AWT:=((p.take i).filter fun w=>decide (w.job.node=id) && decide (w.job.kind=kd)).map fun w=>⟨kd,w.ref.frame⟩
theorem aI9(p:List PDG)(id kd:Int):Ag p id kd 0= []:=rfl
theorem Lr(p:List PDG)(id kd:Int)(i:Nat):(Ag p id kd i).length<=i:=by
 unfold Ag;have:=gU (fun w:PDG=>decide (w.job.node=id) && decide (w.job.kind=kd)) (p.take i);simp at this |-;omega
theorem aC4 {id kd:Int} {i:Nat} (h:i<p.length)(h1:p[i].job.node=id)(h2:p[i].job.kind=kd):Ag p id kd (i+1)=Ag p id kd i++ [⟨kd,p[i].ref.frame⟩]:=by
 unfold Ag;rw [bM _ _ h,eW,dC];simp [h1,h2]
theorem Ru {id kd:Int} {i:Nat} (h:i<p.length)(h1:¬(p[i].job.node=id/\p[i].job.kind=kd)):Ag p id kd (i+1)=Ag p id kd i:=by
 unfold Ag;rw [bM _ _ h,eW,dC];simp at h1 |-;exact h1
def Dr(p:List PDG)(id:Int)(k:Nat):List AWT:=(List.range k).flatMap fun(i:Nat)=>Ag p id ((i:Int)+1) p.length
theorem aAh(p:List PDG)(id:Int):Dr p id 0= []:=by simp [Dr]
theorem Ga(p:List PDG)(id:Int)(k:Nat):Dr p id (k+1)=Dr p id k++Ag p id ((k:Int)+1) p.length:=by unfold Dr;rw [tM,fN];simp
theorem Ji(p:List PDG)(id:Int):∀k,(Dr p id k).length<=k * p.length
 | 0=>by simp [aAh]
 | k+1=>by rw [Ga,aX,nH];have:=Ji p id k;have:=Lr p id ((k:Int)+1) p.length;omega
def aBt(p:List PDG)(k:KD):Bool:=decide (Dr p k.ID 2=iG k.look)
theorem aFv(k:Nat)(h:k<2):([D.int 1,D.int 2][k]?).getD D.any=D.int ((k:Int)+1):=by
 match k,h with
 | 0,_ | 1,_=>rfl
def aBj(now:Int)(w:PDG):Bool:=if w.ref.frame=true then decide (w.left=1) || decide (w.left=2)else decide (now<=w.deadline)
def zF(now:Int)(ks:List KD)(w:PDG):Bool:= !(ks.any fun k=>decide (k.ID=w.job.node)) || !aBj now w || (!decide (w.job.kind=1) && !decide (w.job.kind=2))
theorem Zh {α:Type} (p:α->Bool)(l:List α):(0<=uC p l)↔l.any p=true:=by
 unfold uC;split
 .rename_i k h;rw [nI] at h;obtain⟨hk,he,_⟩:=h;simp only [qN];exact⟨fun _=>⟨_,cR hk,he⟩,fun _=>by omega⟩
 rename_i h;rw [nG] at h;constructor
 .intro q;omega
 intro q;obtain⟨x,h1,h2⟩:=qN.1 q;rw [h x h1] at h2;cases h2
theorem aF3(s:ByteArray)(σ:List (List D))  :Ct prog 99 [D.str s] σ (fun r σ'=>r= .bool (oK s)/\σ'=σ):=by
 refine zf func99 ?_;refine cL fun _ _ Z=>?_;simp(disch:=omega);apply Z;refine cL fun _ _ Z=>?_;refine zs 1 fun _ Y=>?_;simp(disch:=omega);apply Y;refine aD fun _ Y=>?_;simp(disch:=omega);refine eH (mW s _) ?_;apply Y;simp(disch:=omega);apply Z;apply aC;simp [aT]
theorem Du(t:TN)(c:ByteArray)(w:Int)(a:Bool)(σ:List (List D))(h:TE t):Ct prog 102 [iQ t,D.str c,D.int w,D.bool a] σ (fun r σ'=>r= .bool (Uf t c w a)/\σ'=σ):=by
 refine zf func102 ?_;obtain⟨⟨h1,h2,h3,h4⟩,h5,h6⟩:=h;refine cL fun _ _ Z=>?_;simp(disch:=omega);apply Z;refine cL fun _ _ Z=>?_;refine zs 3 fun _ Y=>?_;simp(disch:=omega);apply Y;refine aD fun _ Y=>?_;simp(disch:=omega);refine eH (aE8 t.styles c _ (by omega) h6) ?_;apply Y;simp(disch:=omega);apply Z;refine zk [2,3,8,9,10] ?_;refine vJ ⟨[],[],[],[],[]⟩ fun all hall _ Z=>?_;have ga3:aY all 3=some 21:=hall 3;have ga6:aY all 6=some 24:=hall 6;refine zs 4 fun _ Y=>?_;simp(disch:=omega)[ga3,ga6];apply Y;refine zb 21 ?_ ?_<;>intro g1<;>try simp at g1
 .refine zs 3 fun _ Y=>?_;simp(disch:=omega)[ga3,ga6];apply Y;refine zb 24 ?_ ?_<;>intro g2<;>try simp at g2
  .simp(disch:=omega)[ga3,ga6];apply Z;apply aC;simp [aT,Uf, *]
  simp(disch:=omega)[ga3,ga6];apply Z;apply aC;simp [aT,Uf, *]
 refine zs 8 fun _ Y=>?_;simp(disch:=omega)[ga3,ga6];apply Y;simp(disch:=omega)[ga3,ga6];apply Z;apply aC;simp [aT,Uf, *]
theorem Pa(t:TN)(l:LK)(σ:List (List D))(h:TE t):Ct prog 58 [iQ t,Pq l] σ (fun r σ'=>r= .bool (Cr t l)/\σ'=σ):=by
 refine zf func58 ?_;have hT:=h;obtain⟨⟨h1,h2,h3,h4⟩,h5,h6⟩:=h;have hcl:=Gt l;refine zr ⟨[5,18],[],[],[],[]⟩ fun _ _ Z=>?_;simp(disch:=omega);apply Z;refine zr ⟨[5,18],[],[],[],[]⟩ fun _ _ Z=>?_;simp(disch:=omega);apply Z;apply aE;refine zr ⟨[5,18],[],[],[],[]⟩ fun _ _ Z=>?_;simp(disch:=omega);and_intros<;>(try omega);apply Z;apply aQ;refine zk [2,3,4,5,10,11,12] ?_;refine bK (fun(k:Nat)=> [(12,.d (.v (.int .i64 (k:Int)))),(5,.d (.sl true ((Sx t k).map D.str))),(7,.d (.any))]) [5,7,12,13,14,15,16,17,18,19,20,21,22] (fun(k:Nat)=>k<=t.classes.length) (fun(k:Nat)=>t.classes.length - k) (0) (by simp <;> rfl) ?_ ?_ ?_
 .simp [aLa]
 .simp
 rintro k hk;simp only [aO,aK];have hml:=aGw t k;refine zr ⟨[5,18],[],[],[],[]⟩ fun _ _ Z=>?_;simp(disch:=omega);apply Z;apply aE;refine zI ?_ ?_<;>intro c1<;>try simp at c1
 .apply mT;refine zr ⟨[5,18],[],[],[],[]⟩ fun _ _ Z=>?_;simp(disch:=omega);and_intros<;>(try omega);apply Z;refine zk [2,3,4,5,7,10,11,12] ?_;refine zr ⟨[5,18],[],[],[],[]⟩ fun _ _ Z=>?_;refine zs 1 fun _ Y=>?_;simp(disch:=omega);apply Y;refine aD fun _ Y=>?_;simp(disch:=omega);refine eH (aF3 _ _) ?_;apply Y;simp only [fJ];apply Z;refine zI ?_ ?_<;>intro c2<;>try simp at c2
  .have hnx:=aGs c1 c2;refine zt ⟨[5,18],[],[],[],[]⟩ fun _ _ Z=>?_;simp(disch:=omega);and_intros<;>(try omega);apply Z;apply zB;refine zk [2,3,4,5,7,10,11,12] ?_;refine zt ⟨[5,18],[],[],[],[]⟩ fun _ _ Z=>?_;simp(disch:=omega);and_intros<;>(try omega);apply Z;refine zq (k+1) ?_ ?_ ?_
   .omega
   .try dsimp only
    omega
   simp(disch:=omega)[hnx]
  have hnx:=aIn c1 (by simpa using c2);apply rK;refine zt ⟨[5,18],[],[],[],[]⟩ fun _ _ Z=>?_;simp(disch:=omega);and_intros<;>(try omega);apply Z;refine zq (k+1) ?_ ?_ ?_
  .omega
  .try dsimp only
   omega
  simp(disch:=omega)[hnx]
 obtain rfl:k=t.classes.length:=by omega
 have hma:=aGp t;apply zE;refine zr ⟨[5,18],[],[],[],[]⟩ fun _ _ Z=>?_;simp(disch:=omega);apply Z;refine zk [2,3,4,5,8] ?_;refine vJ ⟨[5,18],[],[],[],[]⟩ fun all hall _ Z=>?_;have ga4:aY all 4=some 30:=hall 4;have ga11:aY all 11=some 37:=hall 11;refine zs 2 fun _ Y=>?_;simp(disch:=omega)[ga4,ga11];apply Y;refine aD fun _ Y=>?_;simp(disch:=omega)[ga4,ga11];refine eH (Jz l _) ?_;apply Y;refine aD fun _ Y=>?_;simp(disch:=omega)[ga4,ga11];refine eH (Yl (Sx t t.classes.length) (oR l) _ (by omega) (by omega)) ?_;apply Y;refine zs 1 fun _ Y=>?_;simp(disch:=omega)[ga4,ga11];apply Y;refine zb 30 ?_ ?_<;>intro g3<;>try simp at g3
 .refine zs 4 fun _ Y=>?_;simp(disch:=omega)[ga4,ga11];apply Y;refine zg ga4 fun _ Y=>?_;simp(disch:=omega)[ga4,ga11];refine eH (Du t mDx l.DX (decide (l.move=1)) _ hT) ?_;apply Y;refine zs 2 fun _ Y=>?_;simp(disch:=omega)[ga4,ga11];apply Y;refine zb 37 ?_ ?_<;>intro g4<;>try simp at g4
  .refine zs 4 fun _ Y=>?_;simp(disch:=omega)[ga4,ga11];apply Y;refine zg ga11 fun _ Y=>?_;simp(disch:=omega)[ga4,ga11];refine eH (Du t mDy l.DY (decide (l.move=1)) _ hT) ?_;apply Y;simp(disch:=omega)[ga4,ga11];apply Z;apply aC;simp only [hma] at *;simp [aT,Cr, *]
  simp(disch:=omega)[ga4,ga11];apply Z;apply aC;simp only [hma] at *;simp [aT,Cr, *]
 refine zs 7 fun _ Y=>?_;simp(disch:=omega)[ga4,ga11];apply Y;simp(disch:=omega)[ga4,ga11];apply Z;apply aC;simp only [hma] at *;simp [aT,Cr, *]
@[simp] abbrev q40_1:Cfg:=⟨[2,3,9,16,24,30,34],[],[],[],[]⟩
theorem aD6(l:LK)(σ:List (List D))  :Ct prog 106 [Pq l] σ (fun r σ'=>r= .sl true ((iG l).map Kv)/\σ'=σ):=by
 refine zf func106 ?_;refine zr q40_1 fun _ _ Z=>?_;simp(disch:=omega);apply Z;refine zr q40_1 fun _ _ Z=>?_;simp(disch:=omega);apply Z;apply aE;refine zr q40_1 fun _ _ Z=>?_;simp(disch:=omega);apply Z;apply aQ;apply aE;refine zr q40_1 fun _ _ Z=>?_;simp(disch:=omega);apply Z;refine zI ?_ ?_<;>intro c1<;>try simp at c1
 .apply zA;refine cJ (t:=true) (by simp) (fun _=>?_) (fun h=>by cases h);refine zt q40_1 fun _ _ Z=>?_;simp(disch:=omega);and_intros<;>(try omega);apply Z;apply zB;apply aE;refine zk [1,2,3] ?_;refine zr q40_1 fun _ _ Z=>?_;simp(disch:=omega);apply Z;apply aQ;refine zr q40_1 fun _ _ Z=>?_;simp(disch:=omega);apply Z;refine zI ?_ ?_<;>intro c2<;>try simp at c2
  .refine zt q40_1 fun _ _ Z=>?_;simp(disch:=omega);and_intros<;>(try omega);apply Z;apply zB;refine zk [2,3] ?_;refine zr q40_1 fun _ _ Z=>?_;simp(disch:=omega);apply Z;apply aC;simp [aT,iG,wA,wM, *]
  refine zr q40_1 fun _ _ Z=>?_;simp(disch:=omega);apply Z;refine zI ?_ ?_<;>intro c3<;>try simp at c3
  .refine zt q40_1 fun _ _ Z=>?_;simp(disch:=omega);and_intros<;>(try omega);apply Z;apply zB;refine zk [2,3] ?_;refine zr q40_1 fun _ _ Z=>?_;simp(disch:=omega);apply Z;apply aC;simp [aT,iG,wA,wM, *]
  apply rK;refine zr q40_1 fun _ _ Z=>?_;simp(disch:=omega);apply Z;apply aC;simp [aT,iG,wA,wM, *]
 refine zt q40_1 fun _ _ Z=>?_;simp(disch:=omega);apply Z;apply kI;refine zI ?_ ?_<;>intro c4<;>try simp at c4
 .refine zt q40_1 fun _ _ Z=>?_;simp(disch:=omega);and_intros<;>(try omega);apply Z;apply zB;apply aE;refine zk [1,2,3] ?_;refine zr q40_1 fun _ _ Z=>?_;simp(disch:=omega);apply Z;apply aQ;refine zr q40_1 fun _ _ Z=>?_;simp(disch:=omega);apply Z;refine zI ?_ ?_<;>intro c5<;>try simp at c5
  .refine zt q40_1 fun _ _ Z=>?_;simp(disch:=omega);and_intros<;>(try omega);apply Z;apply zB;refine zk [2,3] ?_;refine zr q40_1 fun _ _ Z=>?_;simp(disch:=omega);apply Z;apply aC;simp [aT,iG,wA,wM, *]
  refine zr q40_1 fun _ _ Z=>?_;simp(disch:=omega);apply Z;refine zI ?_ ?_<;>intro c6<;>try simp at c6
  .refine zt q40_1 fun _ _ Z=>?_;simp(disch:=omega);and_intros<;>(try omega);apply Z;apply zB;refine zk [2,3] ?_;refine zr q40_1 fun _ _ Z=>?_;simp(disch:=omega);apply Z;apply aC;simp [aT,iG,wA,wM, *]
  apply rK;refine zr q40_1 fun _ _ Z=>?_;simp(disch:=omega);apply Z;apply aC;simp [aT,iG,wA,wM, *]
 apply aE;refine zr q40_1 fun _ _ Z=>?_;simp(disch:=omega);apply Z;refine zI ?_ ?_<;>intro c7<;>try simp at c7
 .apply zA;refine cJ (t:=true) (by simp) (fun _=>?_) (fun h=>by cases h);refine zt q40_1 fun _ _ Z=>?_;simp(disch:=omega);and_intros<;>(try omega);apply Z;apply zB;apply aE;refine zk [1,2,3] ?_;refine zr q40_1 fun _ _ Z=>?_;simp(disch:=omega);apply Z;apply aQ;refine zr q40_1 fun _ _ Z=>?_;simp(disch:=omega);apply Z;refine zI ?_ ?_<;>intro c8<;>try simp at c8
  .refine zt q40_1 fun _ _ Z=>?_;simp(disch:=omega);and_intros<;>(try omega);apply Z;apply zB;refine zk [2,3] ?_;refine zr q40_1 fun _ _ Z=>?_;simp(disch:=omega);apply Z;apply aC;simp [aT,iG,wA,wM, *]
  refine zr q40_1 fun _ _ Z=>?_;simp(disch:=omega);apply Z;refine zI ?_ ?_<;>intro c9<;>try simp at c9
  .refine zt q40_1 fun _ _ Z=>?_;simp(disch:=omega);and_intros<;>(try omega);apply Z;apply zB;refine zk [2,3] ?_;refine zr q40_1 fun _ _ Z=>?_;simp(disch:=omega);apply Z;apply aC;simp [aT,iG,wA,wM, *]
  apply rK;refine zr q40_1 fun _ _ Z=>?_;simp(disch:=omega);apply Z;apply aC;simp [aT,iG,wA,wM, *]
 refine zt q40_1 fun _ _ Z=>?_;simp(disch:=omega);apply Z;apply kI;refine zI ?_ ?_<;>intro c10<;>try simp at c10
 .refine zk [1,2,3] ?_;refine zt q40_1 fun _ _ Z=>?_;simp(disch:=omega);and_intros<;>(try omega);apply Z;apply zB;apply aE;refine zr q40_1 fun _ _ Z=>?_;simp(disch:=omega);apply Z;apply aQ;refine zr q40_1 fun _ _ Z=>?_;simp(disch:=omega);apply Z;refine zI ?_ ?_<;>intro c11<;>try simp at c11
  .refine zk [2,3] ?_;refine zt q40_1 fun _ _ Z=>?_;simp(disch:=omega);and_intros<;>(try omega);apply Z;apply zB;refine zr q40_1 fun _ _ Z=>?_;simp(disch:=omega);apply Z;apply aC;simp [aT,iG,wA,wM, *]
  refine zk [2,3,21] ?_;refine zr q40_1 fun _ _ Z=>?_;simp(disch:=omega);apply Z;refine zI ?_ ?_<;>intro c12<;>try simp at c12
  .refine zt q40_1 fun _ _ Z=>?_;simp(disch:=omega);and_intros<;>(try omega);apply Z;apply zB;refine zr q40_1 fun _ _ Z=>?_;simp(disch:=omega);apply Z;apply aC;simp [aT,iG,wA,wM, *]
  apply rK;refine zr q40_1 fun _ _ Z=>?_;simp(disch:=omega);apply Z;apply aC;simp [aT,iG,wA,wM, *]
 apply rK;apply aE;refine zk [1,2,3] ?_;refine zr q40_1 fun _ _ Z=>?_;simp(disch:=omega);apply Z;apply aQ;refine zr q40_1 fun _ _ Z=>?_;simp(disch:=omega);apply Z;refine zI ?_ ?_<;>intro c13<;>try simp at c13
 .refine zt q40_1 fun _ _ Z=>?_;simp(disch:=omega);and_intros<;>(try omega);apply Z;apply zB;refine zk [2,3] ?_;refine zr q40_1 fun _ _ Z=>?_;simp(disch:=omega);apply Z;apply aC;simp [aT,iG,wA,wM, *]
 refine zr q40_1 fun _ _ Z=>?_;simp(disch:=omega);apply Z;refine zI ?_ ?_<;>intro c14<;>try simp at c14
 .refine zt q40_1 fun _ _ Z=>?_;simp(disch:=omega);and_intros<;>(try omega);apply Z;apply zB;refine zk [2,3] ?_;refine zr q40_1 fun _ _ Z=>?_;simp(disch:=omega);apply Z;apply aC;simp [aT,iG,wA,wM, *]
 apply rK;refine zr q40_1 fun _ _ Z=>?_;simp(disch:=omega);apply Z;apply aC;simp [aT,iG,wA,wM, *]
theorem Nu(p:PIC)(k:KD)(σ:List (List D))(hp:p.pending.length<=1000):Ct prog 61 [rN p,pG k] σ (fun r σ'=>r= .bool (aBt p.pending k)/\σ'=σ):=by
 refine zf func61 ?_;refine zr ⟨[5,36],[],[],[],[]⟩ fun _ _ Z=>?_;simp(disch:=omega)[iR,aM,aL];apply Z;refine zr ⟨[5,36],[],[],[],[]⟩ fun _ _ Z=>?_;simp(disch:=omega)[iR,aM,aL];apply Z;apply aE;refine zr ⟨[5,36],[],[],[],[]⟩ fun _ _ Z=>?_;simp(disch:=omega)[iR,aM,aL];and_intros<;>(try omega);apply Z;apply aQ;refine zk [2,3,4,5,10,11,12] ?_;refine bK (fun(q:Nat)=> [(12,.d (.v (.int .i64 (q:Int)))),(5,.d (.sl true ((Dr p.pending k.ID q).map Kv))),(7,.d (.any)),(9,.d (.any))]) [5,7,9,12,13,14,15,16,17,18,19,20,21,22,23,24,25,26,27,28,29,30,31,32,33,34,35,36,37,38,39,40,41,42,43,44,45] (fun(q:Nat)=>q<=2) (fun(q:Nat)=>2 - q) (0) (by simp <;> rfl) ?_ ?_ ?_
 .simp [aAh]
 .simp
 rintro q hq;simp only [aO,aK];have hol:=Ji p.pending k.ID q;have hol2:q * p.pending.length<=2 * 1000:=Nat.mul_le_mul hq hp;refine zr ⟨[5,36],[],[],[],[]⟩ fun _ _ Z=>?_;simp(disch:=omega)[iR,aM,aL];apply Z;apply aE;refine zI ?_ ?_<;>intro c1<;>try simp at c1
 .have hget:=aFv q (by omega);apply mT;refine zr ⟨[5,36],[],[],[],[]⟩ fun _ _ Z=>?_;simp(disch:=omega)[iR,aM,aL,hget];and_intros<;>(try omega);apply Z;refine zk [2,3,4,5,7,9,10,11,12] ?_;refine zr ⟨[5,36],[],[],[],[]⟩ fun _ _ Z=>?_;simp(disch:=omega)[iR,aM,aL,hget];and_intros<;>(try omega);apply Z;apply aQ;refine zk [2,3,4,5,7,9,10,11,12,17,18,19] ?_;refine bK (fun(i:Nat)=> [(19,.d (.v (.int .i64 (i:Int)))),(5,.d (.sl true ((Dr p.pending k.ID q++Ag p.pending k.ID ((q:Int)+1) i).map Kv))),(9,.d (.any))]) [5,9,19,20,21,22,23,24,25,26,27,28,29,30,31,32,33,34,35,36,37,38,39,40,41,42,43,44] (fun(i:Nat)=>i<=p.pending.length) (fun(i:Nat)=>p.pending.length - i) (0) (by simp <;> rfl) ?_ ?_ ?_
  .simp [aI9]
  .simp
  rintro i hi;simp only [aO,aK];have hkl:=Lr p.pending k.ID ((q:Int)+1) i;refine zk [2,3,4,5,7,9,10,11,12,17,18,19] ?_;refine zr ⟨[5,36],[],[],[],[]⟩ fun _ _ Z=>?_;simp(disch:=omega)[iR,aM,aL,hget];apply Z;apply aE;refine zI ?_ ?_<;>intro c2<;>try simp at c2
  .apply mT;refine zk [2,3,4,5,7,9,10,11,12,17,18,19] ?_;refine zr ⟨[5,36],[],[],[],[]⟩ fun _ _ Z=>?_;simp(disch:=omega)[iR,aM,aL,hget];and_intros<;>(try omega);apply Z;refine zk [2,3,4,5,7,9,10,11,12,17,18,19] ?_;refine vJ ⟨[5,36],[],[],[],[]⟩ fun all hall _ Z=>?_;have ga6:aY all 6=some 29:=hall 6;refine zs 7 fun _ Y=>?_;simp(disch:=omega)[iR,aM,aL,ga6,hget];apply Y;refine zb 29 ?_ ?_<;>intro g3<;>try simp at g3
   .simp(disch:=omega)[iR,aM,aL,ga6,hget];apply Z;refine zI ?_ ?_<;>intro c4<;>try simp at c4
    .have hny:=aC4 c2 g3 c4;refine zk [2,3,4,5,7,9,10,11,12,17,18,19] ?_;refine zt ⟨[5,36],[],[],[],[]⟩ fun _ _ Z=>?_;refine zs 8 fun _ Y=>?_;simp(disch:=omega)[iR,aM,aL,hget];and_intros<;>(try omega);apply Y;simp(disch:=omega)[iR,aM,aL,hget];apply Z;apply zB;refine zk [2,3,4,5,7,9,10,11,12,17,18,19] ?_;refine zt ⟨[5,36],[],[],[],[]⟩ fun _ _ Z=>?_;simp(disch:=omega)[iR,aM,aL,hget];and_intros<;>(try omega);apply Z;refine zq (i+1) ?_ ?_ ?_
     .omega
     .try dsimp only
      omega
     simp(disch:=omega)[iR,aM,aL,hny,hget]
    have hny:=Ru (p:=p.pending) (id:=k.ID) (kd:=(q:Int)+1) c2 fun h=>c4 h.2;apply rK;refine zk [2,3,4,5,7,9,10,11,12,17,18,19] ?_;refine zt ⟨[5,36],[],[],[],[]⟩ fun _ _ Z=>?_;simp(disch:=omega)[iR,aM,aL,hget];and_intros<;>(try omega);apply Z;refine zq (i+1) ?_ ?_ ?_
    .omega
    .try dsimp only
     omega
    simp(disch:=omega)[iR,aM,aL,hny,hget]
   have hny:=Ru (p:=p.pending) (id:=k.ID) (kd:=(q:Int)+1) c2 fun h=>g3 h.1;simp(disch:=omega)[iR,aM,aL,ga6,hget];apply Z;refine cJ (t:=false) (by simp) (fun h=>by cases h) (fun _=>?_);apply rK;refine zk [2,3,4,5,7,9,10,11,12,17,18,19] ?_;refine zt ⟨[5,36],[],[],[],[]⟩ fun _ _ Z=>?_;simp(disch:=omega)[iR,aM,aL,hget];and_intros<;>(try omega);apply Z;refine zq (i+1) ?_ ?_ ?_
   .omega
   .try dsimp only
    omega
   simp(disch:=omega)[iR,aM,aL,hny,hget]
  obtain rfl:i=p.pending.length:=by omega
  have hnx:=Ga p.pending k.ID q;apply Bk;apply Bb;apply Ch;apply yT;apply zB;refine zk [2,3,4,5,7,9,10,11,12] ?_;refine zt ⟨[5,36],[],[],[],[]⟩ fun _ _ Z=>?_;simp(disch:=omega)[iR,aM,aL,hget];and_intros<;>(try omega);apply Z;refine zq (q+1) ?_ ?_ ?_
  .omega
  .try dsimp only
   omega
  simp(disch:=omega)[iR,aM,aL,hnx,hget]
 obtain rfl:q=2:=by omega
 apply zE;refine zr ⟨[5,36],[],[],[],[]⟩ fun _ _ Z=>?_;refine zs 3 fun _ Y=>?_;simp(disch:=omega)[iR,aM,aL];apply Y;refine aD fun _ Y=>?_;simp(disch:=omega)[iR,aM,aL];refine eH (aD6 k.look _) ?_;apply Y;refine aD fun _ Y=>?_;simp(disch:=omega)[iR,aM,aL];refine eH (aId (Dr p.pending k.ID 2) (iG k.look) _ (by omega) (by have:=Nr k.look;omega)) ?_;apply Y;simp(disch:=omega)[iR,aM,aL];apply Z;apply aC;simp [aT,aBt]
end Go.Proofs.YtbdjepeabjangaaGreat
