import Derived.Test.YtbdjepeabjangaaGreatWkDr8
set_option linter.all false
set_option maxRecDepth 20000
set_option maxHeartbeats 8000000
open Go.Proofs.Tryz
namespace Go.Proofs.YtbdjepeabjangaaGreat
open Go Go.Vm
variable {k v:VN}{o:List VN}
def rF(f:FL):VN:=⟨f.kind,pF 20 f.tag,pF 20 f.key,pF 70 f.text,wZ f.classes 4,Cd f.attrs 4,yQ f.styles 4,f.opts, []⟩
abbrev FO(f:FL):Prop:=f.classes.length<=9223372036854775807/\f.attrs.length<=9223372036854775807/\f.styles.length<=9223372036854775807
theorem Za(f:FL)(σ:List (List D))(h:FO f):Ct prog 35 [Ah f] σ (fun r σ'=>r=kM (rF f)/\∃J,σ'=σ++J):=by
 refine zf func35 ?_;have h5:=h.1;have h6:=h.2.1;have h7:=h.2.2;refine zr ⟨[37],[],[3],[],[]⟩ fun _ _ Z=>?_;simp(disch:=omega)[aI,aB,aF,aA];apply Z;refine zd ⟨[37],[],[3],[],[]⟩ [.op {},.op {rL:=true},.op {},.op {rL:=true},.pure,.op {},.op {rL:=true},.pure,.op {},.op {rL:=true},.pure,.op {},.op {rL:=true},.pure,.op {},.op {rL:=true},.pure,.op {},.op {rL:=true},.op {},.op {rO:=true,wO:=true},.op {rO:=true,wO:=true}] fun all hall _ Z=>?_;refine kY 4 fun _ Y=>?_;simp(disch:=omega)[aI,aB,aF,aA];apply Y;refine bJ fun _ Y=>?_;simp(disch:=omega)[aI,aB,aF,aA];refine rG (fun _=>(sI f.tag 20 _ (by omega))) ?_;apply Y;refine kY 2 fun _ Y=>?_;simp(disch:=omega)[aI,aB,aF,aA];apply Y;refine bJ fun _ Y=>?_;simp(disch:=omega)[aI,aB,aF,aA];refine rG (fun _=>(sI f.key 20 _ (by omega))) ?_;apply Y;refine kY 2 fun _ Y=>?_;simp(disch:=omega)[aI,aB,aF,aA];apply Y;refine bJ fun _ Y=>?_;simp(disch:=omega)[aI,aB,aF,aA];refine rG (fun _=>(sI f.text 70 _ (by omega))) ?_;apply Y;refine kY 2 fun _ Y=>?_;simp(disch:=omega)[aI,aB,aF,aA];apply Y;refine bJ fun _ Y=>?_;simp(disch:=omega)[aI,aB,aF,aA];refine rG (fun _=>(aJ8 f.classes 4 _ h5 (by omega))) ?_;apply Y;refine kY 2 fun _ Y=>?_;simp(disch:=omega)[aI,aB,aF,aA];apply Y;refine bJ fun _ Y=>?_;simp(disch:=omega)[aI,aB,aF,aA];refine rG (fun _=>(aHb f.styles 4 _ h7 (by omega))) ?_;apply Y;simp(disch:=omega)[aI,aB,aF,aA];and_intros<;>(try omega);apply Z;apply aE;refine zk [1,2,3] ?_;refine zr ⟨[37],[],[3],[],[]⟩ fun _ _ Z=>?_;simp(disch:=omega)[aI,aB,aF,aA];apply Z;apply aQ;refine zk [1,2,3,4] ?_;refine fP (fun(k:Nat)=> [(4,.d (.v (.int .i64 (k:Int))))]) (fun(k:Nat)=> []) (fun(k:Nat)=> [(σ.length, [D.int f.kind,D.str (pF 20 f.tag),D.str (pF 20 f.key),D.str (pF 70 f.text),.sl false ((wZ f.classes 4).map D.str),.sl true ((Cd f.attrs k).map cD),.sl false ((yQ f.styles 4).map bV),D.int f.opts.enter,D.int f.opts.leave,D.int f.opts.move,D.int f.opts.mode,D.bool f.opts.appear,D.bool f.opts.moves,.sl true []])]) [4,25,26,27,28,29,30,31,32,33,34,35,36,37,38,39,40,41,42,43,44,45,46,47,48,49,50,51,52,53,54,55] (fun(k:Nat)=>k<=f.attrs.length/\k<=4) (fun(k:Nat)=>f.attrs.length - k) (0) (by simp <;> rfl) ?_ (by simp) (by simp [aB,aI8]) ?_ ?_
 .simp
 .simp
 rintro k ⟨hk,hk4⟩;simp only [aO,aK,eM,dS,bZ,cN];have hfl:=Kz f.attrs k;apply aE;refine vJ ⟨[37],[],[3],[],[]⟩ fun all hall _ Z=>?_;have ga5:aY all 5=some 30:=hall 5;refine zs 6 fun _ Y=>?_;simp(disch:=omega)[aI,aB,aF,aA,ga5];and_intros<;>(try omega);apply Y;refine zb 30 ?_ ?_<;>intro g1<;>try simp at g1
 .simp(disch:=omega)[aI,aB,aF,aA,ga5];apply Z;refine zI ?_ ?_<;>intro c2<;>try simp at c2
  .apply mT;refine zk [1,2,3,4] ?_;refine ze ⟨[37],[],[3],[],[]⟩ [.op {},.op {rO:=true,wO:=true},.op {},.op {rL:=true},.op {},.op {},.op {},.op {},.pure,.op {},.op {rL:=true},.op {},.op {},.op {},.op {},.pure,.op {},.op {},.op {},.op {},.op {rO:=true,wO:=true}] fun all hall _ Z=>?_;refine kY 8 fun _ Y=>?_;simp(disch:=omega)[aI,aB,aF,aA];and_intros<;>(try omega);apply Y;refine bJ fun _ Y=>?_;simp(disch:=omega)[aI,aB,aF,aA];refine rG (fun _=>(sI f.attrs[k].name 20 _ (by omega))) ?_;apply Y;refine kY 6 fun _ Y=>?_;simp(disch:=omega)[aI,aB,aF,aA];and_intros<;>(try omega);apply Y;refine bJ fun _ Y=>?_;simp(disch:=omega)[aI,aB,aF,aA];refine rG (fun _=>(sI f.attrs[k].value 40 _ (by omega))) ?_;apply Y;simp(disch:=omega)[aI,aB,aF,aA];and_intros<;>(try omega);apply Z;apply zB;refine zk [1,2,3,4] ?_;refine zt ⟨[37],[],[3],[],[]⟩ fun _ _ Z=>?_;simp(disch:=omega)[aI,aB,aF,aA];and_intros<;>(try omega);apply Z;refine eL (k+1) ?_ ?_ (bT rfl ?_ (by simp) (by simp [Wg,aB, *]))
   .omega
   .try dsimp only
    omega
   simp(disch:=omega)[aI,aB,aF,aA]
  apply zE;refine zk [2,3] ?_;refine zr ⟨[37],[],[3],[],[]⟩ fun _ _ Z=>?_;simp(disch:=omega)[aI,aB,aF,aA];apply Z;apply aC;simp [aT,rF];rw [show k=4 by omega]
 simp(disch:=omega)[aI,aB,aF,aA,ga5];apply Z;refine cJ (t:=false) (by simp) (fun h=>by cases h) (fun _=>?_);apply zE;refine zk [2,3] ?_;refine zr ⟨[37],[],[3],[],[]⟩ fun _ _ Z=>?_;simp(disch:=omega)[aI,aB,aF,aA];apply Z;apply aC;simp [aT,rF];rw [aAs f.attrs k 4 (by omega) (by omega)]
theorem Gv(N:Nat)(x:ByteArray):Sc N (D.str x):=Sc.v _
theorem Hz(N:Nat)(x:AT):Sc N (cD x):=Sc.agg fun d hd=>by
 simp at hd;rcases hd with rfl | rfl <;> exact Sc.v _
theorem Gp(N:Nat)(x:PI):Sc N (bV x):=Sc.agg fun d hd=>by
 simp at hd;rcases hd with rfl | rfl <;> exact Sc.v _
theorem aEz(N:Nat)(f:FL):Sc N (kM (rF f)):=Sc.agg fun d hd=>by
 simp only [fQ,kA,kD] at hd;rcases hd with rfl | rfl | rfl | rfl | rfl | rfl | rfl | rfl | rfl | rfl | rfl | rfl | rfl | rfl <;> first
  | exact Sc.v _
  | exact Sc.sl (Sc.map fun a=>Gv _ a)
  | exact Sc.sl (Sc.map fun a=>Hz _ a)
  | exact Sc.sl (Sc.map fun a=>Gp _ a)
  | exact Sc.sl fun d hd=>by cases hd
theorem Iv(f:FL)(σ:List (List D))(h:FO f):Ct prog 35 [Ah f] σ (fun r σ'=>r=kM (rF f)/\σ'=σ):=
 (Za f σ h).trim fun r σ' ⟨hr,J,hs⟩=>⟨σ,J,hs,rfl,by rw [hr];exact aEz _ _,fun n cs h=> .inl h,hr,rfl⟩
def fB(v:VN):Nat:=1+(v.kids.attach.map fun k=>fB k.1).sum
termination_by SizeOf.sizeOf v
decreasing_by
 have h:=iC k.2;cases v;simp at h |-;omega
theorem kZ(v:VN):fB v=1+(v.kids.map fB).sum:=by rw [fB];simp
abbrev VF(v:VN):Prop:=v.classes.length<=4/\v.attrs.length<=4/\v.styles.length<=4/\v.text.size<=70/\v.tag.size<=20/\v.key.size<=20/\(∀s∈v.classes,s.size<=20)/\(∀p∈v.attrs,p.name.size<=20/\p.value.size<=40)/\∀p∈v.styles,p.name.size<=20
inductive VG:VN->Prop
 | mk (v:VN) (h:VF v) (hk:∀k∈v.kids,VG k):VG v
theorem Li(f:FL)(vs:List VN):VF { rF f with kids:=vs } :=by
 refine⟨Kw _ _,Kz _ _,Jt _ _,mE _ _,mE _ _,mE _ _,fun s hs=>?_,fun p hp=>?_,fun p hp=>?_⟩
 .obtain⟨x, -,rfl⟩:=bY.1 hs;exact mE _ _
 .obtain⟨x, -,rfl⟩:=bY.1 hp;exact⟨mE _ _,mE _ _⟩
 obtain⟨x, -,rfl⟩:=bY.1 hp;exact mE _ _
abbrev aHm(l:List FL)(i:Nat)(d:Int):Prop:=∀σ:List (List D),Ct prog 36 [.sl false (l.map Ah),D.int i,D.int d] σ (fun r σ'=>(∃(vs:List VN) (j:Nat),r= .tup [.sl false (vs.map kJ),D.int j]/\i<=j/\j<=l.length/\(∀v∈vs,VG v)/\(vs.map fB).sum=j - i)/\σ'=σ)
theorem Kd(l:List FL)(i:Nat)(d:Int)(σ:List (List D))(hl:l.length<=25)(hf:∀f∈l,FO f)(hi:i<=l.length)(ih:∀(i2:Nat) (d2:Int),i<i2->i2<=l.length->aHm l i2 d2):Ct prog 36 [.sl false (l.map Ah),D.int i,D.int d] σ (fun r σ'=>(∃(vs:List VN) (j:Nat),r= .tup [.sl false (vs.map kJ),D.int j]/\i<=j/\j<=l.length/\(∀v∈vs,VG v)/\(vs.map fB).sum=j - i)/\σ'=σ):=by
 refine zf func36 ?_;refine zr ⟨[8,41],[],[],[],[]⟩ fun _ _ Z=>?_;simp(disch:=omega);apply Z;refine zr ⟨[8,41],[],[],[],[]⟩ fun _ _ Z=>?_;simp(disch:=omega);apply Z;apply zSB;refine zk [0,1,2,6,7,8] ?_;refine bK (fun(p:List VN×Nat)=> [(8,.d (.sl true (p.1.map kJ))),(1,.d (.v (.int .i64 (p.2:Int)))),(9,.d (.any))]) [1,8,9,10,11,12,13,14,15,16,17,18,19,20,21,22,23,24,25,26,27,28,29,30,31,32,33,34,35,36,37,38,39,40,41,42,43,44] (fun(p:List VN×Nat)=>i<=p.2/\p.2<=l.length/\(∀v∈p.1,VG v)/\(p.1.map fB).sum=p.2 - i/\p.1.length<=p.2 - i) (fun(p:List VN×Nat)=>l.length - p.2) (([],i)) (by simp <;> rfl) ?_ ?_ ?_
 .simp
 .simp;omega
 rintro⟨vs,k⟩ ⟨h1,h2,h3,h4,h5⟩;simp only [aO,aK];dsimp only at h1 h2 h3 h4 h5;apply aE;refine zk [0,1,2,6,7,8,9] ?_;refine vJ ⟨[8,41],[],[],[],[]⟩ fun all hall _ Z=>?_;have ga4:aY all 4=some 14:=hall 4;refine zs 5 fun _ Y=>?_;simp(disch:=omega)[ga4];and_intros<;>(try omega);apply Y;refine zb 14 ?_ ?_<;>intro g1<;>try simp at g1
 .simp(disch:=omega)[ga4];and_intros<;>(try omega);apply Z;refine zI ?_ ?_<;>intro c2<;>try simp at c2
  .apply zA;apply aQ;refine zk [0,1,2,6,7,8,9] ?_;refine zr ⟨[8,41],[],[],[],[]⟩ fun _ _ Z=>?_;refine zs 4 fun _ Y=>?_;simp(disch:=omega);and_intros<;>(try omega);apply Y;refine aD fun _ Y=>?_;simp(disch:=omega);refine eH (Iv l[k] _ (hf _ (cR _))) ?_;apply Y;simp(disch:=omega);apply Z;refine zk [0,1,2,6,7,8,9] ?_;refine zr ⟨[8,41],[],[],[],[]⟩ fun _ _ Z=>?_;refine zs 8 fun _ Y=>?_;simp(disch:=omega);and_intros<;>(try omega);apply Y;refine aD fun _ Y=>?_;simp(disch:=omega);refine Xl (ih (k+1) l[k].deep (by omega) (by omega) _) ?_;rintro _ τ1 ⟨⟨ws,j,hr,hj1,hj2,hg,hs⟩,hτ⟩;subst hr hτ;apply Y;simp(disch:=omega);apply Z;refine zk [0,1,2,6,7,8,9] ?_;refine zt ⟨[8,41],[],[],[],[]⟩ fun _ _ Z=>?_;simp(disch:=omega);and_intros<;>(try omega);apply Z;apply iP;refine zq ((vs++ [{ rF l[k] with kids:=ws }],j)) ?_ ?_ ?_
   .refine⟨by omega,hj2,fun v hv=>?_,?_,?_⟩
    .rcases dZ.1 hv with hv | hv
     .exact h3 v hv
     rw [iM.1 hv];exact .mk _ (Li _ _) hg
    .simp only [dC,tL,fM,nN,nR,List.sum_nil,kZ { rF l[k] with kids:=ws }];omega
    simp;omega
   .try dsimp only
    omega
   simp(disch:=omega)
  apply zE;refine zk [1,6,7,8] ?_;refine zr ⟨[8,41],[],[],[],[]⟩ fun _ _ Z=>?_;simp(disch:=omega);apply Z;apply aC;simp [aT];exact⟨vs,k,⟨rfl,rfl⟩,h1,h2,h3,h4⟩
 simp(disch:=omega)[ga4];apply Z;refine cJ (t:=false) (by simp) (fun h=>by cases h) (fun _=>?_);apply zE;refine zk [1,6,7,8] ?_;refine zr ⟨[8,41],[],[],[],[]⟩ fun _ _ Z=>?_;simp(disch:=omega);apply Z;apply aC;simp [aT];exact⟨vs,k,⟨rfl,rfl⟩,h1,h2,h3,h4⟩
theorem By(l:List FL)(hl:l.length<=25)(hf:∀f∈l,FO f):∀(n i:Nat) (d:Int),l.length - i<=n->i<=l.length->aHm l i d
 | 0,i,d,hn,hi=>fun σ=>Kd l i d σ hl hf hi fun i2 d2 h1 h2=>absurd h2 (by omega)
 | n+1,i,d,hn,hi=>fun σ=>Kd l i d σ hl hf hi fun i2 d2 h1 h2=>By l hl hf n i2 d2 (by omega) h2
def xG:VN:=⟨2,⟨#[112]⟩,⟨#[]⟩,⟨#[]⟩, [], [], [],⟨0,0,0,0,false,false⟩, []⟩
theorem aDc:VG xG:= .mk _ ⟨by decide,by decide,by decide,by decide+kernel,by decide+kernel,by decide+kernel,(fun s h=>by cases h),(fun p h=>by cases h),(fun p h=>by cases h)⟩ fun k hk=>by cases hk
theorem Yc:fB xG<=25:=by rw [kZ];decide
theorem aHz(f:FL)(ws:List VN)(j:Nat)(hg:∀v∈ws,VG v)(hs:(ws.map fB).sum=j - 1)(hj:j<=25)(h1:1<=j):VG { rF f with kids:=ws } /\fB { rF f with kids:=ws } <=25:=by
 refine⟨.mk _ (Li _ _) hg,?_⟩;rw [kZ];simp only [];omega
theorem Yd(l:List FL)(n:Nat)(σ:List (List D))(hn:n<=25)(hl:l.length<=9223372036854775807)(hf:∀f∈l,FO f):Ct prog 13 [.sl false (l.map Ah),D.int n] σ (fun r σ'=>(r.plain=true/\∃v:VN,r.strip=kM v/\VG v/\fB v<=25)/\σ'=σ):=by
 refine zf func13 ?_;refine cL fun _ _ Z=>?_;simp(disch:=omega);apply Z;apply aE;refine cL fun _ _ Z=>?_;simp(disch:=omega);and_intros<;>(try omega);apply Z;refine zI ?_ ?_<;>intro c1<;>try simp at c1
 .refine Dd fun _ _ Z=>?_;simp(disch:=omega);and_intros<;>(try omega);apply Z;apply kI;apply aE;rw [<- wX];obtain⟨L,hL⟩:∃L,L=l.take n:=⟨_,rfl⟩;rw [<- hL];have hLl:L.length<=25:=by rw [hL,bB];omega
  have hLf:∀f∈L,FO f:=by rw [hL];exact fun f hf2=>hf f (qL hf2)
  refine cL fun _ _ Z=>?_;simp(disch:=omega);and_intros<;>(try omega);apply Z;refine zI ?_ ?_<;>intro c2<;>try simp at c2
  .refine zk [0,4] ?_;refine cL fun _ _ Z=>?_;simp(disch:=omega);apply Z;apply aC;simp [aT];exact⟨xG,by simp [xG],aDc,Yc⟩
  apply zA;have hL0:0<L.length:=by
   rcases L with _ | ⟨a,b⟩
   .first | (simp at c2;done) | (simp at c3;done)
   simp
  refine zk [0,4] ?_;refine cL fun _ _ Z=>?_;refine zs 3 fun _ Y=>?_;simp(disch:=omega);and_intros<;>(try omega);apply Y;refine aD fun _ Y=>?_;simp(disch:=omega);refine eH (Iv L[0] _ (hLf _ (cR _))) ?_;apply Y;simp(disch:=omega);apply Z;refine cL fun _ _ Z=>?_;refine zs 5 fun _ Y=>?_;simp(disch:=omega);and_intros<;>(try omega);apply Y;refine aD fun _ Y=>?_;simp(disch:=omega);refine Xl (By L hLl hLf 25 1 L[0].deep (by omega) (by omega) _) ?_;rintro _ τ1 ⟨⟨ws,j,hr,hj1,hj2,hg,hs⟩,hτ⟩;subst hr hτ;apply Y;simp(disch:=omega);apply Z;refine zk [4,5] ?_;refine cL fun _ _ Z=>?_;simp(disch:=omega);apply Z;apply aC;simp [aT];exact⟨{ rF L[0] with kids:=ws },by simp,aHz _ ws j hg hs (by omega) (by omega)⟩
 apply zA;apply aE;obtain⟨L,hL⟩:∃L,L=l:=⟨_,rfl⟩;have hLl:L.length<=25:=by rw [hL];omega
 have hLf:∀f∈L,FO f:=by rw [hL];exact hf
 rw [<- hL];refine cL fun _ _ Z=>?_;simp(disch:=omega);and_intros<;>(try omega);apply Z;refine zI ?_ ?_<;>intro c3<;>try simp at c3
 .refine cL fun _ _ Z=>?_;simp(disch:=omega);apply Z;apply aC;simp [aT];exact⟨xG,by simp [xG],aDc,Yc⟩
 apply zA;have hL0:0<L.length:=by
  rcases L with _ | ⟨a,b⟩
  .first | (simp at c2;done) | (simp at c3;done)
  simp
 refine cL fun _ _ Z=>?_;refine zs 3 fun _ Y=>?_;simp(disch:=omega);and_intros<;>(try omega);apply Y;refine aD fun _ Y=>?_;simp(disch:=omega);refine eH (Iv L[0] _ (hLf _ (cR _))) ?_;apply Y;simp(disch:=omega);apply Z;refine zk [0,4,5] ?_;refine cL fun _ _ Z=>?_;refine zs 5 fun _ Y=>?_;simp(disch:=omega);and_intros<;>(try omega);apply Y;refine aD fun _ Y=>?_;simp(disch:=omega);refine Xl (By L hLl hLf 25 1 L[0].deep (by omega) (by omega) _) ?_;rintro _ τ1 ⟨⟨ws,j,hr,hj1,hj2,hg,hs⟩,hτ⟩;subst hr hτ;apply Y;simp(disch:=omega);apply Z;refine zk [4,5] ?_;refine cL fun _ _ Z=>?_;simp(disch:=omega);apply Z;apply aC;simp [aT];exact⟨{ rF L[0] with kids:=ws },by simp,aHz _ ws j hg hs (by omega) (by omega)⟩
theorem Ak(l:List FL)(n:Nat)(σ:List (List D))(hn:n<=25)(hl:l.length<=9223372036854775807)(hf:∀f∈l,FO f):Ct prog 13 [.sl false (l.map Ah),D.int n] σ (fun r σ'=>(∃v:VN,r=kM v/\VG v/\fB v<=25)/\σ'=σ):=
 (Yd l n σ hn hl hf).strip fun r σ' h=>⟨h.1.1,h.1.2,h.2⟩
def cV(v:VN):List D:= [D.int v.kind,D.str v.tag,D.str v.key,D.str v.text,.sl false (v.classes.map D.str),.sl false (v.attrs.map cD),.sl false (v.styles.map bV),D.int v.opts.enter,D.int v.opts.leave,D.int v.opts.move,D.int v.opts.mode,D.bool v.opts.appear,D.bool v.opts.moves,.sl false (v.kids.map kJ)]
theorem aLd(v:VN):(kJ v).cells=cV v:=by rw [Gu];rfl
theorem uR(l:List VN):(l.map kJ).flatMap D.cells=l.flatMap cV:=dB aLd l
theorem Fk(l:List VN):∀d∈l.map kJ,d.ncells=14/\d.arr=true:=by
 intro d hd;obtain⟨a,_,rfl⟩:=bY.1 hd;rw [Gu];exact⟨rfl,rfl⟩
@[simp high] theorem Qm(l:List VN):(l.flatMap cV).length=l.length * 14:=dG (f:=cV) (fun _=>rfl) l
theorem aH4(l:List VN)(rest:List D)(i j:Nat)(h:i<l.length)(hj:j<14):(l.flatMap cV++rest)[i * 14+j]?=(cV l[i])[j]?:=Gk (f:=cV) (k:=14) (fun _=>rfl) l rest i j h hj
def txt(v:VN)(s:ByteArray):VN:= { v with text:=s }
theorem aLz(l:List VN)(rest:List D)(i:Nat)(s:ByteArray)(h:i<l.length):(l.flatMap cV++rest).set (i * 14+3) (D.str s)=(l.set i (txt l[i] s)).flatMap cV++rest:=by
 have hp:=lE (f:=cV) (k:=14) (fun _=>rfl) l i h;rw [oO (f:=cV) l i h,oO (f:=cV) (l.set i (txt l[i] s)) i (by simpa using h),List.take_set_of_le (bD _),List.drop_set_of_lt (by omega),List.getElem_set_self];rw [bN,bN,bN,bN,<- hp,jF _ _ (by omega)];congr 1;rw [kB];rfl
def lM(k:VN):Bool:= !(decide (k.kind=1) && decide (k.text=⟨#[]⟩))
def mI(out:List VN)(k:VN):List VN:=match out.getLast? with
 | some p=>if p.kind=1/\k.kind=1 then out.set (out.length - 1) (txt p (p.text++k.text))else out++ [k]
 | none=>out++ [k]
def kN(l:List VN):List VN:=l.foldl mI []
theorem sD(l:List VN)(k:VN):kN (l++ [k])=mI (kN l) k:=by unfold kN;rw [jD];rfl
theorem Fm(o:List VN)(k:VN):(mI o k).length<=o.length+1:=by
 unfold mI;split
 .split <;> simp
 simp
theorem yZ (h:∀h:0<o.length,¬(o[o.length - 1].kind=1/\k.kind=1)):mI o k=o++ [k]:=by
 unfold mI;split
 .rename_i p hp;rw [Eh] at hp;obtain⟨h1,h2⟩:=aH.1 hp;rw [aG];rw [<- h2];exact h (by omega)
 rfl
theorem My (h:0<o.length)(h1:o[o.length - 1].kind=1)(h2:k.kind=1):mI o k=o.set (o.length - 1) (txt o[o.length - 1] (o[o.length - 1].text++k.text)):=by
 unfold mI;rw [Eh,aN (by omega)];simp only [h1,h2,and_self,aJ]
def gG(v:VN):VN:= { v with classes:=oD v.classes,attrs:=oX nA v.attrs,styles:=oX nP v.styles,kids:=kN ((v.kids.attach.map fun k=>gG k.1).filter lM) }
termination_by SizeOf.sizeOf v
decreasing_by
 have h:=iC k.2;cases v;simp at h |-;omega
theorem oN(v:VN):gG v= { v with classes:=oD v.classes,attrs:=oX nA v.attrs,styles:=oX nP v.styles,kids:=kN ((v.kids.map gG).filter lM) } :=by
 rw [gG];simp
theorem uW(v:VN):(gG v).text=v.text:=by rw [oN]
theorem Fg {B C:Nat} (ho:∀x∈o,x.text.size<=B)(hk:k.text.size<=C):∀x∈mI o k,x.text.size<=B+C:=by
 intro x hx;unfold mI at hx;have hq:∀y,y∈o++ [k]->y.text.size<=B+C:=fun y hy=>by
  rcases dZ.1 hy with h | h
  .have:=ho y h;omega
  rw [iM.1 h];omega
 split at hx
 .rename_i p hp;split at hx
  .rcases Ft hx with h | h
   .have:=ho x h;omega
   rw [h];have hm:p∈o:=List.mem_of_getLast? hp;have:=ho p hm;simp only [txt,ByteArray.size_append];omega
  exact hq x hx
 exact hq x hx
def Dc(v:VN)(j:Nat):List VN:=kN (((v.kids.take j).map gG).filter lM)
theorem aCv(v:VN):Dc v 0= []:=rfl
theorem Ar(v:VN):∀j,(Dc v j).length<=j
 | 0=>by simp [aCv]
 | j + 1 => by
  by_cases h:j<v.kids.length
  .unfold Dc;rw [bM _ _ h,dC,eW,fM,nN];by_cases hk:lM (gG v.kids[j])=true
   .rw [Ef hk,nW,sD];have:=Fm (kN (((v.kids.take j).map gG).filter lM)) (gG v.kids[j]);have:=Ar v j;unfold Dc at this;omega
   rw [Fo hk,nW,iK];have:=Ar v j;unfold Dc at this;omega
  have h1:=Ar v j;unfold Dc at h1 |-;rw [bW (by omega)] at h1 |-;omega
theorem Lt {j:Nat} (h:j<v.kids.length)(hk:lM (gG v.kids[j])=false):Dc v (j+1)=Dc v j:=by
 unfold Dc;rw [bM _ _ h,dC,eW,fM,nN,Fo (by simp [hk]),nW,iK]
theorem rU {j:Nat} (h:j<v.kids.length)(hk:lM (gG v.kids[j])=true):Dc v (j+1)=mI (Dc v j) (gG v.kids[j]):=by
 unfold Dc;rw [bM _ _ h,dC,eW,fM,nN,Ef hk,nW,sD]
theorem Qx {B:Nat} (h:∀k∈v.kids,k.text.size<=B):∀j,j<=v.kids.length->∀k∈Dc v j,k.text.size<=j * B
 | 0,_=>fun k hk=>by rw [aCv] at hk;cases hk
 | j + 1, hj => fun k hk => by
  have ih:=Qx h j (by omega);have eB:(j+1) * B=j * B+B:=nH j B;rw [eB];cases e:lM (gG v.kids[j])with
  | false=>rw [Lt (by omega) e] at hk;have:=ih k hk;omega
  | true=>
   rw [rU (by omega) e] at hk;exact Fg ih (by rw [uW];exact h _ (cR _)) k hk
theorem aF5(v:VN):Dc v v.kids.length=(gG v).kids:=by rw [oN];unfold Dc;rw [gC]
end Go.Proofs.YtbdjepeabjangaaGreat
