import Derived.Test.YtbdjepeabjangaaGreatWkAu15
import Derived.Test.YtbdjepeabjangaaGreatVm15
import Derived.Test.YtbdjepeabjangaaGreatWkDr8
set_option linter.all false
set_option maxRecDepth 20000
set_option maxHeartbeats 8000000
open Go.Proofs.Tryz
namespace Go.Proofs.YtbdjepeabjangaaGreat
open Go Go.Vm
variable {t:TN}{σ:List (List D)}
theorem He {l:List PI} (hs:eE nP l) {i j:Nat} (hi:i<l.length)(hj:j<l.length)(h:i<j):l[i].name≠l[j].name:=vR (rU.1 hs i j hi hj h)
theorem Wj {l:List PI} (hs:eE nP l)(c:ByteArray):Pe l c=yL l c:=by
 cases hb:kM nP l c with
 | false=>
  rw [Nk hb,Ph fun j hj e=>?_];have h2:kM nP l c=true:=yH.2 ⟨j,hj,e⟩;rw [hb] at h2;cases h2
 | true=>
  obtain⟨j,hj,e⟩:=yH.1 hb;rw [Vg hj (fun i hi h=>fun e2=>He hs hj hi (by omega) (e.trans e2.symm)) e];unfold yL;rw [Pw hj (fun x hx=>?_) (by simpa using e)]
  .rfl
  obtain⟨i,hi,rfl⟩:=oT hx;rw [bF] at hi;rw [List.getElem_take];have:=He hs (i:=i) (by omega) hj (by omega);rw [e] at this;simpa using this
theorem aGy (h:TE t)(l:LK):mO t l=xT t l:=by
 unfold mO xT Sn;rw [Wj h.2.2,Wj h.2.2];by_cases hm:l.move=1
 .simp only [hm,aO,decide_true];cases decide (mT t=cR l) <;> cases kM nP t.styles mDx <;> cases kM nP t.styles mDy <;> simp
 simp only [hm,bE,pF];cases decide (mT t=cR l) <;> cases kM nP t.styles mDx <;> cases kM nP t.styles mDy <;> simp
def toW(w:PDG):WAT:=⟨w.ref.frame,w.job.kind,w.job.node,w.left,w.deadline⟩
theorem aGq(p:List PDG)(id kd:Int)(n:Nat):wE p id kd n=(onW (p.map toW) id kd n).map fun w=>⟨kd,w.frame⟩:=by
 unfold wE onW;rw [<- sF,vM,nH];rfl
theorem aMg(L:List WAT)(kd:Int):(L.map fun w=>(⟨kd,w.frame⟩:AWT))= []↔L.length=0:=by cases L <;> simp
theorem aL0(L:List WAT)(kd:Int):(L.map fun w=>(⟨kd,w.frame⟩:AWT))= [⟨kd,true⟩]↔L.length=1/\(L.filter WAT.frame).length=1:=by
 rcases L with _ | ⟨a,_ | ⟨b,l⟩⟩
 .simp
 .cases h:a.frame <;> simp [h]
 simp
theorem aMp(L:List WAT)(kd:Int):(L.map fun w=>(⟨kd,w.frame⟩:AWT))= [⟨kd,false⟩]↔L.length=1/\(L.filter WAT.frame).length=0:=by
 rcases L with _ | ⟨a,_ | ⟨b,l⟩⟩
 .simp
 .cases h:a.frame <;> simp [h]
 simp
theorem aKp {A B C E:List AWT} {k:Int} (hA:∀x∈A,x.kind=k)(hC:∀x∈C,x.kind=k)(hB:∀x∈B,x.kind≠k)(hE:∀x∈E,x.kind≠k):A++B=C++E↔A=C/\B=E:=by
 constructor
 .intro h;have f1:∀ {X Y:List AWT},(∀x∈X,x.kind=k)->(∀x∈Y,x.kind≠k)->(X++Y).filter (fun x=>decide (x.kind=k))=X:=by
   intro X Y hX hY;rw [cT,oX.2 (fun x hx=>by simpa using hX x hx),pB.2 (fun x hx=>by simpa using hY x hx),iC]
  have h2:A=C:=by rw [<- f1 hA hB,h,f1 hC hE]
  subst h2;exact⟨rfl,List.append_cancel_left h⟩
 rintro⟨rfl,rfl⟩;rfl
theorem aK1(p:List PDG)(k:KD):Nm p k=(tA (p.map toW) k.ID 1 (Cc k.look) && tA (p.map toW) k.ID 2 (tW k.look)):=by
 have e:Ff p k.ID 2=wE p k.ID 1 p.length++wE p k.ID 2 p.length:=by
  rw [uP,uP,Ub];rfl
 unfold Nm;rw [e,aGq,aGq];unfold jA;have hA:∀x∈wA k.look,x.kind=1:=by unfold wA;(repeat' split) <;> simp
 have hM:∀x∈wM k.look,x.kind≠1:=by unfold wM;(repeat' split) <;> simp
 rw [jJ,decide_eq_true_iff,aKp (k:=1) (fun x hx=>by obtain⟨w,_,rfl⟩:=bW.1 hx;rfl) hA (fun x hx=>by obtain⟨w,_,rfl⟩:=bW.1 hx;simp) hM,fF];have hl:(p.map toW).length=p.length:=cG ..;refine and_congr ?_ ?_
 .unfold tA tF Pg Cc aBe wA;rw [hl];by_cases h1:k.look.kind=2\/k.look.kind=5
  .have h2:¬(k.look.kind=3\/k.look.kind=6):=by omega
   rw [aR h1,aH h2,aR h1,aL0];simp
  by_cases h2:k.look.kind=3\/k.look.kind=6
  .rw [aH h1,aR h2,aR h2,aMp];simp
  rw [aH h1,aH h2,aH h2,aH h1,aMg];simp
 unfold tA tF Pg tW wM;rw [hl];by_cases h1:k.look.move=1
 .rw [aR h1,aH (by omega),h1,aL0];simp
 by_cases h2:k.look.move=2
 .rw [aH h1,aR h2,aH (by omega),h2,aMp];simp
 rw [aH h1,aH h2,aMg];by_cases h3:k.look.move<0\/2<k.look.move
 .rw [aR h3];simp
 rw [aH h3,show k.look.move=0 by omega];simp
theorem aI4(now:Int)(ks:List KD)(w:PDG):fZ now ks (toW w)=wT now ks w:=by
 unfold fZ wT Xs toW;simp only [aK4];cases (ks.any fun k=>decide (k.ID=w.job.node)) <;> cases w.ref.frame <;> simp
 all_goals (rw [jJ];simp;omega)
theorem aCl {α β:Type} (p:β->Bool)(f:β->FND)(g:α->β)(l:List α)(i:Nat):Az p f (l.map g) i=Az (fun a=>p (g a)) (fun a=>f (g a)) l i:=by
 unfold Az;rw [<- sF,vM,nH];rfl
theorem aM2 (h:TI t)(p:List PDG)(k:KD):yC t (p.map toW) k=Gq t p k:=by
 unfold yC Gq Kg k1F Rh k3F;rw [aGy (h.fnd k.ID).e,aK1];simp only [fF]
theorem aEk {p:PIC} {x:RPC} (h:TI p.tree)(h1:x.tree=p.tree)(h2:x.view=p.view)(h3:x.mounted=p.mounted)(h4:x.now=p.now)(h5:x.kids=p.kids)(h6:x.pending=p.pending.map toW)(h7:x.hooks=p.hooks):sW x=mL p:=by
 unfold sW mL rK pK rI pI;rw [h1,h2,h3,h4,h5,h6,h7,aCl,cG];congr 2
 .congr 1;funext k;exact aM2 h p.pending k
 congr 1;funext w;exact aI4 _ _ _
theorem aF6(l:List WAT):∀k,k<=l.length->(Tp l k).map toW=Wq l k
 | 0,_=>rfl
 | k+1,h=>by rw [Fw l k (by omega),Ew l k (by omega),cX,aF6 l k (by omega)];rfl
theorem aJt(l:List WAT):(Tp l 10).map toW=Wq l 10:=by
 by_cases h:10<=l.length
 .exact aF6 l 10 h
 rw [<- Lm (bG l.length) (by omega),<- Ma (bG l.length) (by omega)];exact aF6 l _ (bG _)
theorem aP1 {d:DRW} {v:VN} (ht:TG t)(hc:jF t<=25)(hv:VG v)(hvc:fG v<=25)(l:List HE)(hl:l.length<=1000):PW { zN d t v with hooks:=l } :=
 ⟨Lh (Qi ht (by omega)),rfl,hv,by show fG v<=100;omega,cZ (Kz _ _) (by decide),cZ (Kp _ _) (by decide),hl⟩
theorem aPf {d:DRW} {v:VN} (ht:TG t)(hc:jF t<=25):sW (Ly d t v)=mL (zN d t v):=
 aEk (Lh (Qi ht (by omega))) rfl rfl rfl rfl rfl (aJt _).symm rfl
theorem aBr {p:PIC} (h:PW p):(mL p).length<=1000:=by
 unfold mL hkF;have h1:=Tx p p.kids.length (bG _);have h2:=aCm p p.pending.length;have h3:=h.k;have h4:=h.w;simp only [bC];split <;> simp <;> omega
def zP(x0:Int)(x1:Int)(x2:Int):Int:=max x1 (min x0 x2)
theorem qV(x0:Int)(x1:Int)(x2:Int)(σ:List (List D))  :Ct prog 75 [.v (.int .i64 x0),.v (.int .i64 x1),.v (.int .i64 x2)] σ (fun r σ'=>r= .v (.int .i64 (zP x0 x1 x2))/\σ'=σ):=by
 refine zf func75 ?_;refine bT fun all K Z=>?_;simp(disch:=omega);apply Z;clear Z K all;refine bT fun all K Z=>?_;simp(disch:=omega);and_intros<;>(try omega);apply Z;clear Z K all;apply aE;first | (simp [aP,zP];done) | (simp [aP,zP];done) | (simp [aP];unfold zP;(repeat' split) <;> first | (exfalso;omega) | (simp_all;done)) | (simp [aP,zP, *];done) | (simp_all [aP,zP];done) | (simp_all [aP,zP];omega) | (simp [aP,zP] <;> split <;> omega)
abbrev kv0(o:Nat):List (Value×Nat×D):= [(.int .i64 0,0,.ref o 0)]
abbrev wU(M:Nat)(most:Int)(o:Nat):List D:= [D.int most,D.int 1,.mp M (.int .i64) 1 (kv0 o)]
abbrev kK:List D:= [D.int 0,D.int 2,D.str dC,D.str ⟨#[]⟩,.sl false [],.sl false [],.sl false [],D.int (-1),.xs 1 []]
abbrev Rp(p:Nat)(n:Int):List D:= [D.int n,D.int 0,.ref p 0]
abbrev aHh(M:Nat):List D:= [.sl false [],.mp M (.int .i64) 0 []]
abbrev Db(n:Int):List D:= [D.int n,D.int 0,.sl false [],.sl false []]
abbrev Ra(w q:Nat)(n:Int):List D:= [D.int 0,D.int n,.ref w 0,.ref q 0]
abbrev aHj(d:Nat):List D:= [.ref d 0,.sl false []]
theorem aPk(k:Int):MapKept.IsKey (.int .i64) (.int .i64 k):=rfl
theorem Wp {m:Nat} {cs:List D} (h:σ[m]?=some cs)(i N:Nat)(kd:TypeDesc)(ck:Nat)(kvs:List (Value×Nat×D)):putM σ m i N kd ck kvs=σ.set m (cs.set i (.mp N kd ck kvs)):=by
 unfold putM;rw [lX,h];rfl
theorem fQ:zP 8192 1 65536=8192:=by decide
theorem vS:zP 18 1 65536=18:=by decide
theorem aLb  (σ:List (List D))  :Ct prog 76 [D.int 8192] σ (fun r σ'=>r= .ref (σ.length+2) 0/\σ'=σ++ [[],aHh σ.length,Rp (σ.length+1) 8192]):=by
 refine zf func76 ?_;refine zr ⟨[],[],[7,9],[],[]⟩ fun _ _ Z=>?_;simp(disch:=omega)[aL,aI,aD,aA,fQ];apply Z;refine zr ⟨[],[],[7,9],[],[]⟩ fun _ _ Z=>?_;refine zs 1 fun _ Y=>?_;simp(disch:=omega)[aL,aI,aD,aA,fQ];apply Y;refine aG fun _ Y=>?_;simp(disch:=omega)[aL,aI,aD,aA,fQ];refine dX (qV 8192 1 65536 _) ?_;apply Y;simp(disch:=omega)[aL,aI,aD,aA,fQ];and_intros<;>(try omega);apply Z;refine rC 5 (σ.length+1) 1 (N:=σ.length) (kd:= .int .i64) (clock:=0) (kvs:= []) (by simp) (by simp [aL,aI,aD,aA] <;> rfl) (by simp <;> rfl) ?_;simp only [aI,bK,bN];refine lB (σ.length+1) (aHh σ.length) (by simp [aL,aI,aD,aA];rfl) (by simp [leC,D.s1]) ?_;simp only [aI,bK,bN];apply aE;simp [aP]
theorem aJ9  (σ:List (List D))  :Ct prog 77 [D.int 8192] σ (fun r σ'=>r= .ref σ.length 0/\σ'=σ++ [Db 8192]):=by
 refine zf func77 ?_;refine zr ⟨[],[],[6],[],[]⟩ fun _ _ Z=>?_;simp(disch:=omega)[aL,aI,aD,aA,fQ];apply Z;refine zr ⟨[],[],[6],[],[]⟩ fun _ _ Z=>?_;refine zs 1 fun _ Y=>?_;simp(disch:=omega)[aL,aI,aD,aA,fQ];apply Y;refine aG fun _ Y=>?_;simp(disch:=omega)[aL,aI,aD,aA,fQ];refine dX (qV 8192 1 65536 _) ?_;apply Y;simp(disch:=omega)[aL,aI,aD,aA,fQ];and_intros<;>(try omega);apply Z;refine lB σ.length (Db 8192) (by simp [aL,aI,aD,aA];rfl) (by simp [leC,D.s1]) ?_;simp only [aA,bK,bN];apply aE;simp [aP]
theorem aIj  (σ:List (List D))  :Ct prog 40 [D.int 8192] σ (fun r σ'=>r= .ref (σ.length+4) 0/\σ'=σ++ [[],aHh σ.length,Rp (σ.length+1) 8192,Db 8192,Ra (σ.length+2) (σ.length+3) 8192]):=by
 refine zf func40 ?_;refine zr ⟨[],[],[11],[],[]⟩ fun _ _ Z=>?_;simp(disch:=omega)[aL,aI,aD,aA,fQ];apply Z;refine zr ⟨[],[],[11],[],[]⟩ fun _ _ Z=>?_;refine zs 1 fun _ Y=>?_;simp(disch:=omega)[aL,aI,aD,aA,fQ];apply Y;refine aG fun _ Y=>?_;simp(disch:=omega)[aL,aI,aD,aA,fQ];refine dX (qV 8192 1 65536 _) ?_;apply Y;simp(disch:=omega)[aL,aI,aD,aA,fQ];apply Z;refine zr ⟨[],[],[11],[],[]⟩ fun _ _ Z=>?_;refine zs 2 fun _ Y=>?_;simp(disch:=omega)[aL,aI,aD,aA,fQ];apply Y;refine aG fun _ Y=>?_;simp(disch:=omega)[aL,aI,aD,aA,fQ];refine dX (aLb _) ?_;apply Y;refine zs 1 fun _ Y=>?_;simp(disch:=omega)[aL,aI,aD,aA,fQ];apply Y;refine aG fun _ Y=>?_;simp(disch:=omega)[aL,aI,aD,aA,fQ];refine dX (aJ9 _) ?_;apply Y;simp(disch:=omega)[aL,aI,aD,aA,fQ];and_intros<;>(try omega);apply Z;apply aE;simp [aP]
theorem aRm(d:Nat)(σ:List (List D))  :Ct prog 38 [.ref d 0] σ (fun r σ'=>r= .ref σ.length 0/\σ'=σ++ [aHj d]):=by
 refine zf func38 ?_;refine zr ⟨[],[],[5],[],[]⟩ fun _ _ Z=>?_;simp(disch:=omega)[aL,aI,aD,aA];apply Z;refine zr ⟨[],[],[5],[],[]⟩ fun _ _ Z=>?_;simp(disch:=omega)[aL,aI,aD,aA];and_intros<;>(try omega);apply Z;refine lB σ.length (aHj d) (by simp [aL,aI,aD,aA];rfl) (by simp [leC,D.s1]) ?_;simp only [aA,bK,bN];apply aE;simp [aP]
theorem aLl  (σ:List (List D))  :Ct prog 39 [D.int 18] σ (fun r σ'=>r= .ref (σ.length+1) 0/\σ'=σ++ [[],wU σ.length 18 (σ.length+2),kK]):=by
 refine zf func39 ?_;refine zr ⟨[],[],[8,14],[],[]⟩ fun _ _ Z=>?_;simp(disch:=omega)[aL,aI,aD,aA,vS];apply Z;refine zr ⟨[],[],[8,14],[],[]⟩ fun _ _ Z=>?_;refine zs 1 fun _ Y=>?_;simp(disch:=omega)[aL,aI,aD,aA,vS];apply Y;refine aG fun _ Y=>?_;simp(disch:=omega)[aL,aI,aD,aA,vS];refine dX (qV 18 1 65536 _) ?_;apply Y;simp(disch:=omega)[aL,aI,aD,aA,vS];and_intros<;>(try omega);apply Z;refine rC 6 (σ.length+1) 2 (N:=σ.length) (kd:= .int .i64) (clock:=0) (kvs:= []) (by simp) (by simp [aL,aI,aD,aA] <;> rfl) (by simp <;> rfl) ?_;simp only [aI,bK,bN];refine zr ⟨[],[],[8,14],[],[]⟩ fun _ _ Z=>?_;simp(disch:=omega)[aL,aI,aD,aA,vS];refine⟨σ.length+1,2,0, [],1,_,⟨⟨_,by simp [aL,aI,aD,aA] <;> rfl,rfl⟩,aPk _,rfl,.inr ⟨by simp,rfl,rfl⟩⟩,?_⟩;rw [Wp (by simp [aL,aI,aD,aA] <;> rfl)];and_intros<;>(try omega);apply Z;refine aC5 (σ.length+2) 8 1 (by simp [aL,aI,aD,aA];rfl) rfl ?_;simp only [aI,bK,bN];refine lB (σ.length+2) kK (by simp [aL,aI,aD,aA];rfl) (by simp [leC,D.s1]) ?_;simp only [aI,bK,bN];refine zk [2,3] ?_;refine zr ⟨[],[],[8,14],[],[]⟩ fun _ _ Z=>?_;simp(disch:=omega)[aL,aI,aD,aA,vS];apply Z;apply aE;simp [aP]
theorem aIf {a0 a1 a2 a3 a4 a5 a6 a7 a8 b:D} :([a0,a1,a2,a3,a4,a5,a6,a7,a8]:List D).set 8 b= [a0,a1,a2,a3,a4,a5,a6,a7,b]:=rfl
abbrev aMt(k:D):List D:= [D.int 0,D.int 2,D.str dC,D.str ⟨#[]⟩,.sl false [],.sl false [],.sl false [],D.int (-1),k]
theorem Fj(N cap:Nat)(l:List Int)(rest:List D)(σ:List (List D))(hl:l.length<=1000000)(hN:σ[N]?=some (l.map D.int++rest)):Ct prog 112 [.slo N 0 l.length cap] σ (fun r σ'=>uL 1 (l.map D.int) r/\σ'=σ):=by
 refine zf func112 ?_;refine zr ⟨[2,7],[],[],[],[7]⟩ fun _ _ Z=>?_;simp(disch:=omega)[hN];apply Z;apply aF;refine zr ⟨[2,7],[],[],[],[7]⟩ fun _ _ Z=>?_;refine zs 1 fun _ Y=>?_;simp(disch:=omega)[hN];apply Y;refine aG fun _ Y=>?_;simp(disch:=omega)[hN];refine⟨Y _ ?_,fun e1=>Y _ ?_⟩
 .simp only [fS];apply Z;refine aY (t:=false) (by simp) (fun h=>by cases h) (fun _=>?_);apply zA;refine zr ⟨[2,7],[],[],[],[7]⟩ fun _ _ Z=>?_;refine zs 3 fun _ Y=>?_;simp(disch:=omega)[hN];refine⟨l.map D.int,⟨⟨by simp,by rw [nY (f:=D.int) (fun _=>rfl)];exact cU _ _⟩,mH (d:=D.int) (fun _=>⟨rfl,rfl⟩) _,by first | rfl | trivial⟩,⟨by simp;omega,by simp;omega⟩,?_⟩;and_intros<;>(try omega);apply Y;simp(disch:=omega)[hN];apply Z;apply aE;simp [aP,uL]
 simp only [fS];apply Z;refine aY (t:=true) (by simp) (fun _=>?_) (fun h=>by cases h);refine zr ⟨[2,7],[],[],[],[7]⟩ fun _ _ Z=>?_;simp(disch:=omega)[hN];apply Z;apply aE;simp [aP,uL,e1]
theorem Yf(N cap:Nat)(l:List Int)(rest:List D)(σ:List (List D))(hl:l.length<=1000000)(hN:σ[N]?=some (l.map D.int++rest)):Ct prog 112 [.slo N 0 l.length cap] σ (fun r σ'=>r= .sl false (l.map D.int)/\σ'=σ):=((Fj N cap l rest σ hl hN).toX fun _ _ h=>h).freeze fun _ _ h=>h
theorem To(N cap:Nat)(l:List Int)(rest:List D)(σ:List (List D))(hl:l.length<=1000000)(hN:σ[N]?=some (l.map D.int++rest)):Ct prog 112 [.slo N 0 l.length cap] σ (fun r σ'=>r= .xs 1 (l.map D.int)/\σ'=σ):=(Fj N cap l rest σ hl hN).toX fun _ _ h=>h
theorem Sz(o:Nat)(σ:List (List D))(hq:σ[o]?=some kK):Ct prog 78 [.ref o 0] σ (fun r σ'=>r= .ref (σ.length+1) 0/\σ'=σ++ [[],kK]):=by
 refine zf func78 ?_;refine Gc o 8 1 (es:=([]:List Int).map D.int) hq rfl (by decide) fun cap rest hcap hcm hrest hes=>?_;simp only [cG,dU,aIf] at hcap hrest |-;rw [nY (f:=D.int) (fun _=>rfl)];refine zr ⟨[16],[],[3],[],[]⟩ fun _ _ Z=>?_;simp(disch:=omega)[aL,aI,aD,aA,hq,eP hq,gG hq,cW hq,gF hq,fD hq,eN,cS,eF,cL,eG,cN,eH,cM];apply Z;refine zr ⟨[16],[],[3],[],[]⟩ fun _ _ Z=>?_;simp(disch:=omega)[aL,aI,aD,aA,hq,eP hq,gG hq,cW hq,gF hq,fD hq,eN,cS,eF,cL,eG,cN,eH,cM];and_intros<;>(try omega);apply Z;refine zk [0,2,3] ?_;refine zd ⟨[16],[],[3],[],[]⟩ [.op {},.op {},.op {},.op {rO:=true},.pure,.op {},.op {},.op {},.op {rO:=true},.read,.op {},.op {rO:=true,wO:=true},.op {},.op {rO:=true,wO:=true}] fun all hall _ Z=>?_;refine iK 4 fun _ Y=>?_;simp(disch:=omega)[aL,aI,aD,aA,hq,eP hq,gG hq,cW hq,gF hq,fD hq,eN,cS,eF,cL,eG,cN,eH,cM];apply Y;refine bJ fun _ Y=>?_;simp(disch:=omega)[aL,aI,aD,aA,hq,eP hq,gG hq,cW hq,gF hq,fD hq,eN,cS,eF,cL,eG,cN,eH,cM];refine pH (fun _=>(yM [] _ (by decide))) ?_;apply Y;refine iK 4 fun _ Y=>?_;simp(disch:=omega)[aL,aI,aD,aA,hq,eP hq,gG hq,cW hq,gF hq,fD hq,eN,cS,eF,cL,eG,cN,eH,cM];apply Y;refine bJ fun _ Y=>?_;simp(disch:=omega)[aL,aI,aD,aA,hq,eP hq,gG hq,cW hq,gF hq,fD hq,eN,cS,eF,cL,eG,cN,eH,cM];refine⟨_,Ct.of_le (To σ.length cap [] rest _ (by decide) (by simp [eN])) (by first | exact fE rfl | (refine fE ?_;simp;done) | (refine fE ?_;simp;rfl) | (simp [lJ,Co];done)) rfl,?_⟩;apply Y;simp(disch:=omega)[aL,aI,aD,aA,hq,eP hq,gG hq,cW hq,gF hq,fD hq,eN,cS,eF,cL,eG,cN,eH,cM];apply Z;refine zk [0,2,3] ?_;refine zd ⟨[16],[],[3],[],[]⟩ [.op {},.op {},.op {},.op {rO:=true},.pure,.op {},.op {},.op {},.op {rO:=true},.pure,.op {},.op {rO:=true,wO:=true},.op {},.op {rO:=true,wO:=true}] fun all hall _ Z=>?_;refine iK 4 fun _ Y=>?_;simp(disch:=omega)[aL,aI,aD,aA,hq,eP hq,gG hq,cW hq,gF hq,fD hq,eN,cS,eF,cL,eG,cN,eH,cM];apply Y;refine bJ fun _ Y=>?_;simp(disch:=omega)[aL,aI,aD,aA,hq,eP hq,gG hq,cW hq,gF hq,fD hq,eN,cS,eF,cL,eG,cN,eH,cM];refine pH (fun _=>(Au [] _ (by decide))) ?_;apply Y;refine iK 4 fun _ Y=>?_;simp(disch:=omega)[aL,aI,aD,aA,hq,eP hq,gG hq,cW hq,gF hq,fD hq,eN,cS,eF,cL,eG,cN,eH,cM];apply Y;refine bJ fun _ Y=>?_;simp(disch:=omega)[aL,aI,aD,aA,hq,eP hq,gG hq,cW hq,gF hq,fD hq,eN,cS,eF,cL,eG,cN,eH,cM];refine pH (fun _=>(At [] _ (by decide))) ?_;apply Y;simp(disch:=omega)[aL,aI,aD,aA,hq,eP hq,gG hq,cW hq,gF hq,fD hq,eN,cS,eF,cL,eG,cN,eH,cM];apply Z;refine zk [2,3] ?_;refine zr ⟨[16],[],[3],[],[]⟩ fun _ _ Z=>?_;simp(disch:=omega)[aL,aI,aD,aA,hq,eP hq,gG hq,cW hq,gF hq,fD hq,eN,cS,eF,cL,eG,cN,eH,cM];apply Z;refine Ce o 8 1 σ.length 0 cap (([]:List Int).map D.int) _ (([]:List Int).map D.int++rest) (gG hq _ _) rfl (by simp [eN]) (by have:=Fz hq;omega) (by decide) (by simp [hrest]) (by simp) hes (by rw [nY (f:=D.int) (fun _=>rfl)];exact cU _ _) ?_;simp only [aIf,gF hq,cS];rw [show [D.int 0,D.int 2,D.str dC,D.str ⟨#[]⟩,.sl false [],.sl false [],.sl false [],D.int (-1),D.xs 1 (([]:List Int).map D.int)]=kK from rfl,oO hq];refine lB (σ.length+1) kK (by simp;rfl) (by simp [leC,D.s1]) ?_;apply aE;simp [aP]
theorem Xl(o:Nat)(σ:List (List D))(hq:σ[o]?=some kK):Ct prog 78 [.ref o 0] σ (fun r σ'=>r= .ref (σ.length+1) 0/\σ'=σ++ [[],aMt (.sl false [])]):=by
 refine zf func78 ?_;refine Gc o 8 1 (es:=([]:List Int).map D.int) hq rfl (by decide) fun cap rest hcap hcm hrest hes=>?_;simp only [cG,dU,aIf] at hcap hrest |-;rw [nY (f:=D.int) (fun _=>rfl)];refine zr ⟨[],[],[3],[],[]⟩ fun _ _ Z=>?_;simp(disch:=omega)[aL,aI,aD,aA,hq,eP hq,gG hq,cW hq,gF hq,fD hq,eN,cS,eF,cL,eG,cN,eH,cM];apply Z;refine zr ⟨[],[],[3],[],[]⟩ fun _ _ Z=>?_;simp(disch:=omega)[aL,aI,aD,aA,hq,eP hq,gG hq,cW hq,gF hq,fD hq,eN,cS,eF,cL,eG,cN,eH,cM];and_intros<;>(try omega);apply Z;refine zk [0,2,3] ?_;refine zd ⟨[],[],[3],[],[]⟩ [.op {},.op {},.op {},.op {rO:=true},.pure,.op {},.op {},.op {},.op {rO:=true},.read,.op {},.op {rO:=true,wO:=true},.op {},.op {rO:=true,wO:=true}] fun all hall _ Z=>?_;refine iK 4 fun _ Y=>?_;simp(disch:=omega)[aL,aI,aD,aA,hq,eP hq,gG hq,cW hq,gF hq,fD hq,eN,cS,eF,cL,eG,cN,eH,cM];apply Y;refine bJ fun _ Y=>?_;simp(disch:=omega)[aL,aI,aD,aA,hq,eP hq,gG hq,cW hq,gF hq,fD hq,eN,cS,eF,cL,eG,cN,eH,cM];refine pH (fun _=>(yM [] _ (by decide))) ?_;apply Y;refine iK 4 fun _ Y=>?_;simp(disch:=omega)[aL,aI,aD,aA,hq,eP hq,gG hq,cW hq,gF hq,fD hq,eN,cS,eF,cL,eG,cN,eH,cM];apply Y;refine bJ fun _ Y=>?_;simp(disch:=omega)[aL,aI,aD,aA,hq,eP hq,gG hq,cW hq,gF hq,fD hq,eN,cS,eF,cL,eG,cN,eH,cM];refine zdr (Yf σ.length cap [] rest _ (by decide) (by simp [eN])) ?_;apply Y;simp(disch:=omega)[aL,aI,aD,aA,hq,eP hq,gG hq,cW hq,gF hq,fD hq,eN,cS,eF,cL,eG,cN,eH,cM];apply Z;refine zk [0,2,3] ?_;refine zd ⟨[],[],[3],[],[]⟩ [.op {},.op {},.op {},.op {rO:=true},.pure,.op {},.op {},.op {},.op {rO:=true},.pure,.op {},.op {rO:=true,wO:=true},.op {},.op {rO:=true,wO:=true}] fun all hall _ Z=>?_;refine iK 4 fun _ Y=>?_;simp(disch:=omega)[aL,aI,aD,aA,hq,eP hq,gG hq,cW hq,gF hq,fD hq,eN,cS,eF,cL,eG,cN,eH,cM];apply Y;refine bJ fun _ Y=>?_;simp(disch:=omega)[aL,aI,aD,aA,hq,eP hq,gG hq,cW hq,gF hq,fD hq,eN,cS,eF,cL,eG,cN,eH,cM];refine pH (fun _=>(Au [] _ (by decide))) ?_;apply Y;refine iK 4 fun _ Y=>?_;simp(disch:=omega)[aL,aI,aD,aA,hq,eP hq,gG hq,cW hq,gF hq,fD hq,eN,cS,eF,cL,eG,cN,eH,cM];apply Y;refine bJ fun _ Y=>?_;simp(disch:=omega)[aL,aI,aD,aA,hq,eP hq,gG hq,cW hq,gF hq,fD hq,eN,cS,eF,cL,eG,cN,eH,cM];refine pH (fun _=>(At [] _ (by decide))) ?_;apply Y;simp(disch:=omega)[aL,aI,aD,aA,hq,eP hq,gG hq,cW hq,gF hq,fD hq,eN,cS,eF,cL,eG,cN,eH,cM];apply Z;refine zk [2,3] ?_;refine zr ⟨[],[],[3],[],[]⟩ fun _ _ Z=>?_;simp(disch:=omega)[aL,aI,aD,aA,hq,eP hq,gG hq,cW hq,gF hq,fD hq,eN,cS,eF,cL,eG,cN,eH,cM];apply Z;refine Ce o 8 1 σ.length 0 cap (([]:List Int).map D.int) _ (([]:List Int).map D.int++rest) (gG hq _ _) rfl (by simp [eN]) (by have:=Fz hq;omega) (by decide) (by simp [hrest]) (by simp) hes (by rw [nY (f:=D.int) (fun _=>rfl)];exact cU _ _) ?_;simp only [aIf,gF hq,cS];rw [show [D.int 0,D.int 2,D.str dC,D.str ⟨#[]⟩,.sl false [],.sl false [],.sl false [],D.int (-1),D.xs 1 (([]:List Int).map D.int)]=kK from rfl,oO hq];refine lB (σ.length+1) (aMt (.sl false [])) (by simp;rfl) (by simp [leC,D.s1]) ?_;apply aE;simp [aP]
def snK(k:Nat):List Nat:=if k=0 then [] else [0]
theorem aMh:snK 0= []:=rfl
theorem aQ6:snK (0+1)= []++ [0]:=rfl
def clK(σ:List (List D))(most:Int)(k:Nat):List (List D):=if k=0 then σ++ [[], [D.int most,D.int 1,.mp σ.length (.int .i64) 0 []]] else σ++ [[],wU σ.length most (σ.length+3), [],kK]
theorem Wv {m:Nat} {c:List D} (h:σ[m]?=some c)(most:Int)(k:Nat):(clK σ most k)[m]?=some c:=by unfold clK;split <;> exact cW h _
theorem aM5(σ:List (List D))(most:Int):(clK σ most 0)[σ.length+1]?=some [D.int most,D.int 1,.mp σ.length (.int .i64) 0 []]:=by
 unfold clK;rw [aR rfl,bR (by omega),show σ.length+1 - σ.length=1 by omega];rfl
theorem aIq(σ:List (List D))(most:Int):(clK σ most 0).length=σ.length+2:=by unfold clK;rw [aR rfl];simp
theorem aQs(σ:List (List D))(most:Int):clK σ most 0=σ++ [[], [D.int most,D.int 1,.mp σ.length (.int .i64) 0 []]]:=rfl
theorem aF3(σ:List (List D))(most:Int):(clK σ most 0++ [[],kK]).set (σ.length+1) [D.int most,D.int 1,.mp σ.length (.int .i64) 1 [(.int .i64 0,0,.ref ((clK σ most 0).length+1) 0)]]=clK σ most (0+1):=by
 rw [aIq];unfold clK;rw [aR rfl,aH (by decide),bU,kH _ _ (by omega),show σ.length+1 - σ.length=1 by omega];rfl
theorem aI0 {o j:Nat} {key:Value} {s:Nat} {dv:D} (h:(kv0 o)[j]?=some (key,s,dv)):j=0/\s=0/\key= .int .i64 0/\dv= .ref o 0:=by
 match j,h with
 | 0,h=>simp at h;exact⟨rfl,h.2.1.symm,h.1.symm,h.2.2.symm⟩
 | j+1,h=>simp at h
@[simp] abbrev q36_1:Cfg:=⟨[],[],[21],[],[18,18,1000018]⟩
theorem Yv(m M o:Nat)(most:Int)(σ:List (List D))(hq:σ[m]?=some (wU M most o))(hr:σ[o]?=some kK):Ct prog 41 [.ref m 0] σ (fun r σ'=>r= .ref (σ.length+1) 0/\σ'=σ++ [[],wU σ.length most (σ.length+3), [],kK]):=by
 refine zf func41 ?_;have hqc:=fun k=>Wv hq most k;have hbc:=aM5 σ most;refine zr q36_1 fun _ _ Z=>?_;simp(disch:=omega)[hq,hqc,hbc,aL,aI,aD,aA,cW];apply Z;refine zd q36_1 [.op {},.op {},.op {},.op {rO:=true},.op {},.op {},.op {},.op {rO:=true},.op {},.op {},.op {},.op {rO:=true},.op {rO:=true},.op {rO:=true,wO:=true},.op {},.op {rO:=true,wO:=true},.op {}] fun all hall _ Z=>?_;refine iK 8 fun _ Y=>?_;simp(disch:=omega)[hq,hqc,hbc,aL,aI,aD,aA,cW];apply Y;refine iK 5 fun _ Y=>?_;simp(disch:=omega)[hq,hqc,hbc,aL,aI,aD,aA,cW];refine⟨m,2,1,_,⟨_,hq,rfl⟩,?_⟩;simp only [cI,dU];and_intros<;>(try omega);apply Y;simp(disch:=omega)[hq,hqc,hbc,aL,aI,aD,aA,cW];and_intros<;>(try omega);apply Z;apply aF;refine rC 19 (σ.length+1) 2 (N:=σ.length) (kd:= .int .i64) (clock:=0) (kvs:= []) (by simp) (by simp [aL,aD] <;> rfl) (by simp <;> rfl) ?_;simp only [aI,bK,bN];rw [<- aQs σ most];refine zk [0,2,3] ?_;refine zr q36_1 fun _ _ Z=>?_;simp(disch:=omega)[hq,hqc,hbc,aL,aI,aD,aA,cW];refine⟨m,2,1,⟨_,_,hqc 0,rfl⟩,?_⟩;and_intros<;>(try omega);apply Z;apply aN;refine zk [2,3,26] ?_;refine oY (fun(k:Nat)=> [(26,.d (.mit M 1 (snK k) 1)),(4,.d (.any)),(5,.d (.any))]) (fun(k:Nat)=> []) (fun(k:Nat)=>clK σ most k) [4,5,26,27,28,29,30,31,32,33,34,35,36,37,38] (fun(k:Nat)=>k<=1) (fun(k:Nat)=>1 - k) (0) (by simp <;> rfl) ?_ (by simp) (by simp) ?_ ?_
 .simp [aMh]
 .exact cE _
 rintro k hk;simp only [aM,aK];refine zr q36_1 fun _ _ Z=>?_;refine aG fun _ Y=>?_;simp(disch:=omega)[hq,hqc,hbc,aL,aI,aD,aA,cW];refine⟨m,2,.int .i64,1,kv0 o,⟨⟨_,hqc k,rfl⟩,rfl⟩,fun hnd=>⟨fun n1=>Y _ ?_,fun j s key dv hj hns=>Y _ ?_⟩⟩
 .simp(disch:=omega)[hq,hqc,hbc,aL,aI,aD,aA,cW];apply Z;apply aF;refine aY (t:=false) (by simp) (fun h=>by cases h) (fun _=>?_);apply zE;refine zr q36_1 fun _ _ Z=>?_;simp(disch:=omega)[hq,hqc,hbc,aL,aI,aD,aA,cW];apply Z;apply aE;have hk1:k=1:=by
   rcases lS 0 k with h | h
   .omega
   exfalso;obtain rfl:k=0:=by omega
   have n9:=n1 0 0 _ _ rfl;simp [snK] at n9
  subst hk1;simp [aP,clK]
 obtain⟨rfl,rfl,rfl,rfl⟩:=aI0 hj;obtain rfl:k=0:=by
  rcases lS 0 k with h | h
  .exfalso;apply hns;unfold snK;rw [aH (by omega)];simp
  omega
 have hrc:=Wv hr most 0;simp(disch:=omega)[hq,hqc,hbc,aL,aI,aD,aA,cW];apply Z;apply aF;refine aY (t:=true) (by simp) (fun _=>?_) (fun h=>by cases h);apply zA;apply aN;refine zr q36_1 fun _ _ Z=>?_;refine zs 1 fun _ Y=>?_;simp(disch:=omega)[hq,hqc,hbc,aL,aI,aD,aA,cW];refine⟨m,2,.int .i64,1,kv0 o,snK 0,0,.int .i64 0,.ref o 0,⟨⟨_,hqc 0,rfl⟩,rfl,⟨rfl,rfl⟩,⟨0,rfl⟩,rfl⟩,?_⟩;and_intros<;>(try omega);apply Y;simp(disch:=omega)[hq,hqc,hbc,aL,aI,aD,aA,cW];apply Z;refine zk [2,3,4,5,26] ?_;refine ze q36_1 [.op {},.op {},.op {},.op {rO:=true},.op {},.op {},.detA,.op {rO:=true,wO:=true}] fun all hall _ Z=>?_;refine iK 6 fun _ Y=>?_;simp(disch:=omega)[hq,hqc,hbc,aL,aI,aD,aA,cW];apply Y;refine bJ fun _ Y=>?_;simp(disch:=omega)[hq,hqc,hbc,aL,aI,aD,aA,cW];refine zda ([[],kK]) (Sz o _ hrc) ?_;apply Y;simp(disch:=omega)[hq,hqc,hbc,aL,aI,aD,aA,cW];refine⟨σ.length+1,2,0, [],_,_,⟨⟨_,cW hbc _,rfl⟩,aPk _,rfl,.inr ⟨by simp,rfl,rfl⟩⟩,?_⟩;rw [Wp (cW hbc _)];and_intros<;>(try omega);apply Z;apply iV;refine cQ (0+1) ?_ ?_ (aU rfl ?_ (by simp) (by simpa using aF3 σ most))
 .omega
 .omega
 simp(disch:=omega)[hq,hqc,hbc,aL,aI,aD,aA,cW,aMh,aQ6]
structure ND where
 ID:Int
 kind:Int
 tag:ByteArray
 text:ByteArray
 classes:(List ByteArray)
 attrs:(List AT)
 styles:(List PI)
 parent:Int
 kids:(List Int)
 deriving DecidableEq
@[simp] abbrev aNx(s:ND):D:= .agg [.v (.int .i64 s.ID),.v (.int .i64 s.kind),.v (.string s.tag),.v (.string s.text),.sl false (s.classes.map D.str),.sl false (s.attrs.map cH),.sl false (s.styles.map bY),.v (.int .i64 s.parent),.sl false (s.kids.map D.int)]
@[simp] abbrev aUy(s:ND):D:= .agg [.v (.int .i64 s.ID),.v (.int .i64 s.kind),.v (.string s.tag),.v (.string s.text),.sl true (s.classes.map D.str),.sl true (s.attrs.map cH),.sl true (s.styles.map bY),.v (.int .i64 s.parent),.sl true (s.kids.map D.int)]
def sA:ND:=⟨0,2,dC,⟨#[]⟩, [], [], [], -1, []⟩
def fY:TN:=⟨0,2,dC,⟨#[]⟩, [], [], [], []⟩
theorem aN0 {o:Nat} (z:D):aIe (kv0 o) (.int .i64 0) z (.ref o 0) true:= .inl ⟨rfl,0,0,rfl⟩
theorem aRz(N:Nat)(n:ND):Sc N (aNx n):=Sc.agg fun d hd=>by
 simp only [gA,lF,lC] at hd;rcases hd with rfl | rfl | rfl | rfl | rfl | rfl | rfl | rfl | rfl
 .exact Sc.v _
 .exact Sc.v _
 .exact Sc.v _
 .exact Sc.v _
 .exact Sc.sl (Sc.map fun a=>Kd _ a)
 .exact Sc.sl (Sc.map fun a=>Lw _ a)
 .exact Sc.sl (Sc.map fun a=>Ka _ a)
 .exact Sc.v _
 exact Sc.sl (Sc.map fun a=>Sc.v _)
theorem aJb(m M o:Nat)(most:Int)(σ:List (List D))(hq:σ[m]?=some (wU M most o))(hr:σ[o]?=some kK):Ct prog 83 [.ref m 0,D.int 0] σ (fun r σ'=>r= .tup [aNx sA,.bool true]/\∃J,σ'=σ++J):=by
 refine zf func83 ?_;refine bT fun _ _ Z=>?_;simp(disch:=omega)[hq,hr,aL,aI,aD,aA];apply Z;refine bT fun _ _ Z=>?_;refine zs 6 fun _ Y=>?_;simp(disch:=omega)[hq,hr,aL,aI,aD,aA];refine⟨m,2,1,_,.ref o 0,.inr ⟨⟨⟨_,hq,rfl⟩,aPk _,aN0 _⟩,?_⟩⟩;and_intros<;>(try omega);apply Y;simp(disch:=omega)[hq,hr,aL,aI,aD,aA];apply Z;apply aF;refine zk [4,5,6,7] ?_;refine bT fun _ _ Z=>?_;simp(disch:=omega)[hq,hr,aL,aI,aD,aA];apply Z;refine zI ?_ ?_<;>intro c1<;>try simp at c1
 apply zA;refine bT fun _ _ Z=>?_;refine zs 1 fun _ Y=>?_;simp(disch:=omega)[hq,hr,aL,aI,aD,aA];apply Y;refine aG fun _ Y=>?_;simp(disch:=omega)[hq,hr,aL,aI,aD,aA];refine dX (Xl o _ hr) ?_;apply Y;simp(disch:=omega)[hq,hr,aL,aI,aD,aA];apply Z;apply aE;simp [aP,sA]
theorem aNw(m M o:Nat)(most:Int)(σ:List (List D))(hq:σ[m]?=some (wU M most o))(hr:σ[o]?=some kK):Ct prog 83 [.ref m 0,D.int 0] σ (fun r σ'=>r= .tup [aNx sA,.bool true]/\σ'=σ):=
 (aJb m M o most σ hq hr).trim fun r σ' ⟨hr,J,hs⟩=>⟨σ,J,hs,rfl,by rw [hr];exact Uu (aRz _ _) (Sc.v _),fun n cs h=> .inl h,hr,rfl⟩
theorem aEc(m M o:Nat)(most:Int)(σ:List (List D))(hq:σ[m]?=some (wU M most o))(hr:σ[o]?=some kK):Ct prog 47 [.ref m 0,D.int 0] σ (fun r σ'=>(r.plain=true/\r.strip= .tup [fU fY,D.int 0])/\σ'=σ):=by
 refine zf func47 ?_;refine zr ⟨[50],[],[],[],[]⟩ fun _ _ Z=>?_;simp(disch:=omega)[sA];apply Z;refine zr ⟨[50],[],[],[],[]⟩ fun _ _ Z=>?_;refine zs 2 fun _ Y=>?_;simp(disch:=omega)[sA];apply Y;refine aG fun _ Y=>?_;simp(disch:=omega)[sA];refine dX (aNw m M o most _ hq hr) ?_;apply Y;simp(disch:=omega)[sA];apply Z;apply aF;refine zr ⟨[50],[],[],[],[]⟩ fun _ _ Z=>?_;simp(disch:=omega)[sA];apply Z;refine zI ?_ ?_<;>intro c1<;>try simp at c1
 apply zA;refine zk [0,1,4,5,6] ?_;refine zr ⟨[50],[],[],[],[]⟩ fun _ _ Z=>?_;refine zs 8 fun _ Y=>?_;simp(disch:=omega)[sA];apply Y;simp(disch:=omega)[sA];apply Z;apply aF;refine zk [0,4,5,6,8] ?_;refine zr ⟨[50],[],[],[],[]⟩ fun _ _ Z=>?_;simp(disch:=omega)[sA];and_intros<;>(try omega);apply Z;apply aN;refine zk [0,4,5,8,37,38,39] ?_;refine bA (fun(k:Nat)=> [(39,.d (.v (.int .i64 (k:Int)))),(10,.d (.any)),(43,.d (.any)),(12,.d (.any))]) [10,11,12,39,40,41,42,43,44,45,46,47,48,49,50,51,52,53,54,55] (fun(k:Nat)=>k=0) (fun(k:Nat)=>0) (0) (by simp <;> rfl) ?_ ?_ ?_
 .simp
 .simp
 rintro k hk;simp only [aM,aK];refine zr ⟨[50],[],[],[],[]⟩ fun _ _ Z=>?_;simp(disch:=omega)[sA];apply Z;apply aF;refine zI ?_ ?_<;>intro c2<;>try simp at c2
 .exfalso;omega
 apply zE;refine zr ⟨[50],[],[],[],[]⟩ fun _ _ Z=>?_;simp(disch:=omega)[sA];apply Z;apply aE;simp [aP,fY]
theorem aKk(m M o:Nat)(most:Int)(σ:List (List D))(hq:σ[m]?=some (wU M most o))(hr:σ[o]?=some kK):Ct prog 47 [.ref m 0,D.int 0] σ (fun r σ'=>r= .tup [fU fY,D.int 0]/\σ'=σ):=(aEc m M o most σ hq hr).strip fun r σ' h=>⟨h.1.1,h.1.2,h.2⟩
end Go.Proofs.YtbdjepeabjangaaGreat
