import Derived.Test.YtbdjepeabjangaaGreatWkAu15
import Derived.Test.YtbdjepeabjangaaGreatVm15
import Derived.Test.YtbdjepeabjangaaGreatWkDr8
set_option linter.all false
set_option maxRecDepth 20000
set_option maxHeartbeats 8000000
open Go.Proofs.Tryz
namespace Go.Proofs.YtbdjepeabjangaaGreat
open Go Go.Vm
variable {σ:List (List D)}
theorem aH2 {d:DRW} {t:TN} {v:VN} (ht:TG t)(hc:jJ t<=25)(hv:VG v)(hvc:fB v<=25)(l:List HE)(hl:l.length<=1000):PW { Dg d t v with hooks:=l } :=
 ⟨aEr (aC7 ht (by omega)),rfl,hv,by show fB v<=100;omega,dJ (Qn _ _) (by decide),dJ (Ip _ _) (by decide),hl⟩
theorem Vv {p:PIC} (h:PW p):(mP p).length<=1000:=by
 unfold mP hkF;have h1:=Nk p p.kids.length (bD _);have h2:=aC9 p p.pending.length;have h3:=h.k;have h4:=h.w;simp only [aX];split <;> simp <;> omega
def yV(x0:Int)(x1:Int)(x2:Int):Int:=max x1 (min x0 x2)
theorem pD(x0:Int)(x1:Int)(x2:Int)(σ:List (List D))  :Ct prog 75 [.v (.int .i64 x0),.v (.int .i64 x1),.v (.int .i64 x2)] σ (fun r σ'=>r= .v (.int .i64 (yV x0 x1 x2))/\σ'=σ):=by
 refine zf func75 ?_;refine cL fun all K Z=>?_;simp(disch:=omega);apply Z;clear Z K all;refine cL fun all K Z=>?_;simp(disch:=omega);and_intros<;>(try omega);apply Z;clear Z K all;apply aC;first | (simp [aT,yV];done) | (simp [aT,yV];done) | (simp [aT];unfold yV;(repeat' split) <;> first | (exfalso;omega) | (simp_all;done)) | (simp [aT,yV, *];done) | (simp_all [aT,yV];done) | (simp_all [aT,yV];omega) | (simp [aT,yV] <;> split <;> omega)
abbrev kv0(o:Nat):List (Value×Nat×D):= [(.int .i64 0,0,.ref o 0)]
abbrev uV(M:Nat)(most:Int)(o:Nat):List D:= [D.int most,D.int 1,.mp M (.int .i64) 1 (kv0 o)]
abbrev jI:List D:= [D.int 0,D.int 2,D.str cT,D.str ⟨#[]⟩,.sl false [],.sl false [],.sl false [],D.int (-1),.xs 1 []]
abbrev Nh(p:Nat)(n:Int):List D:= [D.int n,D.int 0,.ref p 0]
abbrev aBx(M:Nat):List D:= [.sl false [],.mp M (.int .i64) 0 []]
abbrev Aa(n:Int):List D:= [D.int n,D.int 0,.sl false [],.sl false []]
abbrev Pb(w q:Nat)(n:Int):List D:= [D.int 0,D.int n,.ref w 0,.ref q 0]
abbrev aCf(d:Nat):List D:= [.ref d 0,.sl false []]
theorem aI7(k:Int):MapKept.IsKey (.int .i64) (.int .i64 k):=rfl
theorem Ra {m:Nat} {cs:List D} (h:σ[m]?=some cs)(i N:Nat)(kd:TypeDesc)(ck:Nat)(kvs:List (Value×Nat×D)):putM σ m i N kd ck kvs=σ.set m (cs.set i (.mp N kd ck kvs)):=by
 unfold putM;rw [kW,h];rfl
theorem fD:yV 8192 1 65536=8192:=by decide
theorem tO:yV 18 1 65536=18:=by decide
theorem aGk  (σ:List (List D))  :Ct prog 76 [D.int 8192] σ (fun r σ'=>r= .ref (σ.length+2) 0/\σ'=σ++ [[],aBx σ.length,Nh (σ.length+1) 8192]):=by
 refine zf func76 ?_;refine zr ⟨[],[],[7,9],[],[]⟩ fun _ _ Z=>?_;simp(disch:=omega)[aI,aF,aB,aA,fD];apply Z;refine zr ⟨[],[],[7,9],[],[]⟩ fun _ _ Z=>?_;refine zs 1 fun _ Y=>?_;simp(disch:=omega)[aI,aF,aB,aA,fD];apply Y;refine aD fun _ Y=>?_;simp(disch:=omega)[aI,aF,aB,aA,fD];refine eH (pD 8192 1 65536 _) ?_;apply Y;simp(disch:=omega)[aI,aF,aB,aA,fD];and_intros<;>(try omega);apply Z;refine pJ 5 (σ.length+1) 1 (N:=σ.length) (kd:= .int .i64) (clock:=0) (kvs:= []) (by simp) (by simp [aI,aF,aB,aA] <;> rfl) (by simp <;> rfl) ?_;simp only [aF,bZ,cN];refine kC (σ.length+1) (aBx σ.length) (by simp [aI,aF,aB,aA];rfl) (by simp [Ss,D.s1]) ?_;simp only [aF,bZ,cN];apply aC;simp [aT]
theorem aEp  (σ:List (List D))  :Ct prog 77 [D.int 8192] σ (fun r σ'=>r= .ref σ.length 0/\σ'=σ++ [Aa 8192]):=by
 refine zf func77 ?_;refine zr ⟨[],[],[6],[],[]⟩ fun _ _ Z=>?_;simp(disch:=omega)[aI,aF,aB,aA,fD];apply Z;refine zr ⟨[],[],[6],[],[]⟩ fun _ _ Z=>?_;refine zs 1 fun _ Y=>?_;simp(disch:=omega)[aI,aF,aB,aA,fD];apply Y;refine aD fun _ Y=>?_;simp(disch:=omega)[aI,aF,aB,aA,fD];refine eH (pD 8192 1 65536 _) ?_;apply Y;simp(disch:=omega)[aI,aF,aB,aA,fD];and_intros<;>(try omega);apply Z;refine kC σ.length (Aa 8192) (by simp [aI,aF,aB,aA];rfl) (by simp [Ss,D.s1]) ?_;simp only [aA,bZ,cN];apply aC;simp [aT]
theorem aE0  (σ:List (List D))  :Ct prog 40 [D.int 8192] σ (fun r σ'=>r= .ref (σ.length+4) 0/\σ'=σ++ [[],aBx σ.length,Nh (σ.length+1) 8192,Aa 8192,Pb (σ.length+2) (σ.length+3) 8192]):=by
 refine zf func40 ?_;refine zr ⟨[],[],[11],[],[]⟩ fun _ _ Z=>?_;simp(disch:=omega)[aI,aF,aB,aA,fD];apply Z;refine zr ⟨[],[],[11],[],[]⟩ fun _ _ Z=>?_;refine zs 1 fun _ Y=>?_;simp(disch:=omega)[aI,aF,aB,aA,fD];apply Y;refine aD fun _ Y=>?_;simp(disch:=omega)[aI,aF,aB,aA,fD];refine eH (pD 8192 1 65536 _) ?_;apply Y;simp(disch:=omega)[aI,aF,aB,aA,fD];apply Z;refine zr ⟨[],[],[11],[],[]⟩ fun _ _ Z=>?_;refine zs 2 fun _ Y=>?_;simp(disch:=omega)[aI,aF,aB,aA,fD];apply Y;refine aD fun _ Y=>?_;simp(disch:=omega)[aI,aF,aB,aA,fD];refine eH (aGk _) ?_;apply Y;refine zs 1 fun _ Y=>?_;simp(disch:=omega)[aI,aF,aB,aA,fD];apply Y;refine aD fun _ Y=>?_;simp(disch:=omega)[aI,aF,aB,aA,fD];refine eH (aEp _) ?_;apply Y;simp(disch:=omega)[aI,aF,aB,aA,fD];and_intros<;>(try omega);apply Z;apply aC;simp [aT]
theorem aLg(d:Nat)(σ:List (List D))  :Ct prog 38 [.ref d 0] σ (fun r σ'=>r= .ref σ.length 0/\σ'=σ++ [aCf d]):=by
 refine zf func38 ?_;refine zr ⟨[],[],[5],[],[]⟩ fun _ _ Z=>?_;simp(disch:=omega)[aI,aF,aB,aA];apply Z;refine zr ⟨[],[],[5],[],[]⟩ fun _ _ Z=>?_;simp(disch:=omega)[aI,aF,aB,aA];and_intros<;>(try omega);apply Z;refine kC σ.length (aCf d) (by simp [aI,aF,aB,aA];rfl) (by simp [Ss,D.s1]) ?_;simp only [aA,bZ,cN];apply aC;simp [aT]
theorem aF1  (σ:List (List D))  :Ct prog 39 [D.int 18] σ (fun r σ'=>r= .ref (σ.length+1) 0/\σ'=σ++ [[],uV σ.length 18 (σ.length+2),jI]):=by
 refine zf func39 ?_;refine zr ⟨[],[],[8,14],[],[]⟩ fun _ _ Z=>?_;simp(disch:=omega)[aI,aF,aB,aA,tO];apply Z;refine zr ⟨[],[],[8,14],[],[]⟩ fun _ _ Z=>?_;refine zs 1 fun _ Y=>?_;simp(disch:=omega)[aI,aF,aB,aA,tO];apply Y;refine aD fun _ Y=>?_;simp(disch:=omega)[aI,aF,aB,aA,tO];refine eH (pD 18 1 65536 _) ?_;apply Y;simp(disch:=omega)[aI,aF,aB,aA,tO];and_intros<;>(try omega);apply Z;refine pJ 6 (σ.length+1) 2 (N:=σ.length) (kd:= .int .i64) (clock:=0) (kvs:= []) (by simp) (by simp [aI,aF,aB,aA] <;> rfl) (by simp <;> rfl) ?_;simp only [aF,bZ,cN];refine zr ⟨[],[],[8,14],[],[]⟩ fun _ _ Z=>?_;simp(disch:=omega)[aI,aF,aB,aA,tO];refine⟨σ.length+1,2,0, [],1,_,⟨⟨_,by simp [aI,aF,aB,aA] <;> rfl,rfl⟩,aI7 _,rfl,.inr ⟨by simp,rfl,rfl⟩⟩,?_⟩;rw [Ra (by simp [aI,aF,aB,aA] <;> rfl)];and_intros<;>(try omega);apply Z;refine aCa (σ.length+2) 8 1 (by simp [aI,aF,aB,aA];rfl) rfl ?_;simp only [aF,bZ,cN];refine kC (σ.length+2) jI (by simp [aI,aF,aB,aA];rfl) (by simp [Ss,D.s1]) ?_;simp only [aF,bZ,cN];refine zk [2,3] ?_;refine zr ⟨[],[],[8,14],[],[]⟩ fun _ _ Z=>?_;simp(disch:=omega)[aI,aF,aB,aA,tO];apply Z;apply aC;simp [aT]
theorem aFd {a0 a1 a2 a3 a4 a5 a6 a7 a8 b:D} :([a0,a1,a2,a3,a4,a5,a6,a7,a8]:List D).set 8 b= [a0,a1,a2,a3,a4,a5,a6,a7,b]:=rfl
abbrev aHt(k:D):List D:= [D.int 0,D.int 2,D.str cT,D.str ⟨#[]⟩,.sl false [],.sl false [],.sl false [],D.int (-1),k]
theorem Cc(N cap:Nat)(l:List Int)(rest:List D)(σ:List (List D))(hl:l.length<=1000000)(hN:σ[N]?=some (l.map D.int++rest)):Ct prog 112 [.slo N 0 l.length cap] σ (fun r σ'=>rJ 1 (l.map D.int) r/\σ'=σ):=by
 refine zf func112 ?_;refine zr ⟨[2,7],[],[],[],[7]⟩ fun _ _ Z=>?_;simp(disch:=omega)[hN];apply Z;apply aE;refine zr ⟨[2,7],[],[],[],[7]⟩ fun _ _ Z=>?_;refine zs 1 fun _ Y=>?_;simp(disch:=omega)[hN];apply Y;refine aD fun _ Y=>?_;simp(disch:=omega)[hN];refine⟨Y _ ?_,fun e1=>Y _ ?_⟩
 .simp only [fJ];apply Z;refine cJ (t:=false) (by simp) (fun h=>by cases h) (fun _=>?_);apply zA;refine zr ⟨[2,7],[],[],[],[7]⟩ fun _ _ Z=>?_;refine zs 3 fun _ Y=>?_;simp(disch:=omega)[hN];refine⟨l.map D.int,⟨⟨by simp,by rw [mG (f:=D.int) (fun _=>rfl)];exact dA _ _⟩,lF (d:=D.int) (fun _=>⟨rfl,rfl⟩) _,by first | rfl | trivial⟩,⟨by simp;omega,by simp;omega⟩,?_⟩;and_intros<;>(try omega);apply Y;simp(disch:=omega)[hN];apply Z;apply aC;simp [aT,rJ]
 simp only [fJ];apply Z;refine cJ (t:=true) (by simp) (fun _=>?_) (fun h=>by cases h);refine zr ⟨[2,7],[],[],[],[7]⟩ fun _ _ Z=>?_;simp(disch:=omega)[hN];apply Z;apply aC;simp [aT,rJ,e1]
theorem Vr(N cap:Nat)(l:List Int)(rest:List D)(σ:List (List D))(hl:l.length<=1000000)(hN:σ[N]?=some (l.map D.int++rest)):Ct prog 112 [.slo N 0 l.length cap] σ (fun r σ'=>r= .sl false (l.map D.int)/\σ'=σ):=((Cc N cap l rest σ hl hN).toX fun _ _ h=>h).freeze fun _ _ h=>h
theorem Mw(N cap:Nat)(l:List Int)(rest:List D)(σ:List (List D))(hl:l.length<=1000000)(hN:σ[N]?=some (l.map D.int++rest)):Ct prog 112 [.slo N 0 l.length cap] σ (fun r σ'=>r= .xs 1 (l.map D.int)/\σ'=σ):=(Cc N cap l rest σ hl hN).toX fun _ _ h=>h
theorem Pr(o:Nat)(σ:List (List D))(hq:σ[o]?=some jI):Ct prog 78 [.ref o 0] σ (fun r σ'=>r= .ref (σ.length+1) 0/\σ'=σ++ [[],jI]):=by
 refine zf func78 ?_;refine Ck o 8 1 (es:=([]:List Int).map D.int) hq rfl (by decide) fun cap rest hcap hcm hrest hes=>?_;simp only [cC,dO,aFd] at hcap hrest |-;rw [mG (f:=D.int) (fun _=>rfl)];refine zr ⟨[16],[],[3],[],[]⟩ fun _ _ Z=>?_;simp(disch:=omega)[aI,aF,aB,aA,hq,eI hq,fU hq,cO hq,fT hq,eS hq,eF,cM,dV,cF,dW,cG,dU,cE];apply Z;refine zr ⟨[16],[],[3],[],[]⟩ fun _ _ Z=>?_;simp(disch:=omega)[aI,aF,aB,aA,hq,eI hq,fU hq,cO hq,fT hq,eS hq,eF,cM,dV,cF,dW,cG,dU,cE];and_intros<;>(try omega);apply Z;refine zk [0,2,3] ?_;refine zd ⟨[16],[],[3],[],[]⟩ [.op {},.op {},.op {},.op {rO:=true},.pure,.op {},.op {},.op {},.op {rO:=true},.read,.op {},.op {rO:=true,wO:=true},.op {},.op {rO:=true,wO:=true}] fun all hall _ Z=>?_;refine kY 4 fun _ Y=>?_;simp(disch:=omega)[aI,aF,aB,aA,hq,eI hq,fU hq,cO hq,fT hq,eS hq,eF,cM,dV,cF,dW,cG,dU,cE];apply Y;refine bJ fun _ Y=>?_;simp(disch:=omega)[aI,aF,aB,aA,hq,eI hq,fU hq,cO hq,fT hq,eS hq,eF,cM,dV,cF,dW,cG,dU,cE];refine rG (fun _=>(wR [] _ (by decide))) ?_;apply Y;refine kY 4 fun _ Y=>?_;simp(disch:=omega)[aI,aF,aB,aA,hq,eI hq,fU hq,cO hq,fT hq,eS hq,eF,cM,dV,cF,dW,cG,dU,cE];apply Y;refine bJ fun _ Y=>?_;simp(disch:=omega)[aI,aF,aB,aA,hq,eI hq,fU hq,cO hq,fT hq,eS hq,eF,cM,dV,cF,dW,cG,dU,cE];refine⟨_,Ct.of_le (Mw σ.length cap [] rest _ (by decide) (by simp [eF])) (by first | exact eV rfl | (refine eV ?_;simp;done) | (refine eV ?_;simp;rfl) | (simp [kF,zD];done)) rfl,?_⟩;apply Y;simp(disch:=omega)[aI,aF,aB,aA,hq,eI hq,fU hq,cO hq,fT hq,eS hq,eF,cM,dV,cF,dW,cG,dU,cE];apply Z;refine zk [0,2,3] ?_;refine zd ⟨[16],[],[3],[],[]⟩ [.op {},.op {},.op {},.op {rO:=true},.pure,.op {},.op {},.op {},.op {rO:=true},.pure,.op {},.op {rO:=true,wO:=true},.op {},.op {rO:=true,wO:=true}] fun all hall _ Z=>?_;refine kY 4 fun _ Y=>?_;simp(disch:=omega)[aI,aF,aB,aA,hq,eI hq,fU hq,cO hq,fT hq,eS hq,eF,cM,dV,cF,dW,cG,dU,cE];apply Y;refine bJ fun _ Y=>?_;simp(disch:=omega)[aI,aF,aB,aA,hq,eI hq,fU hq,cO hq,fT hq,eS hq,eF,cM,dV,cF,dW,cG,dU,cE];refine rG (fun _=>(xV [] _ (by decide))) ?_;apply Y;refine kY 4 fun _ Y=>?_;simp(disch:=omega)[aI,aF,aB,aA,hq,eI hq,fU hq,cO hq,fT hq,eS hq,eF,cM,dV,cF,dW,cG,dU,cE];apply Y;refine bJ fun _ Y=>?_;simp(disch:=omega)[aI,aF,aB,aA,hq,eI hq,fU hq,cO hq,fT hq,eS hq,eF,cM,dV,cF,dW,cG,dU,cE];refine rG (fun _=>(xX [] _ (by decide))) ?_;apply Y;simp(disch:=omega)[aI,aF,aB,aA,hq,eI hq,fU hq,cO hq,fT hq,eS hq,eF,cM,dV,cF,dW,cG,dU,cE];apply Z;refine zk [2,3] ?_;refine zr ⟨[16],[],[3],[],[]⟩ fun _ _ Z=>?_;simp(disch:=omega)[aI,aF,aB,aA,hq,eI hq,fU hq,cO hq,fT hq,eS hq,eF,cM,dV,cF,dW,cG,dU,cE];apply Z;refine zK o 8 1 σ.length 0 cap (([]:List Int).map D.int) _ (([]:List Int).map D.int++rest) (fU hq _ _) rfl (by simp [eF]) (by have:=Cl hq;omega) (by decide) (by simp [hrest]) (by simp) hes (by rw [mG (f:=D.int) (fun _=>rfl)];exact dA _ _) ?_;simp only [aFd,fT hq,cM];rw [show [D.int 0,D.int 2,D.str cT,D.str ⟨#[]⟩,.sl false [],.sl false [],.sl false [],D.int (-1),D.xs 1 (([]:List Int).map D.int)]=jI from rfl,mY hq];refine kC (σ.length+1) jI (by simp;rfl) (by simp [Ss,D.s1]) ?_;apply aC;simp [aT]
theorem Vn(o:Nat)(σ:List (List D))(hq:σ[o]?=some jI):Ct prog 78 [.ref o 0] σ (fun r σ'=>r= .ref (σ.length+1) 0/\σ'=σ++ [[],aHt (.sl false [])]):=by
 refine zf func78 ?_;refine Ck o 8 1 (es:=([]:List Int).map D.int) hq rfl (by decide) fun cap rest hcap hcm hrest hes=>?_;simp only [cC,dO,aFd] at hcap hrest |-;rw [mG (f:=D.int) (fun _=>rfl)];refine zr ⟨[],[],[3],[],[]⟩ fun _ _ Z=>?_;simp(disch:=omega)[aI,aF,aB,aA,hq,eI hq,fU hq,cO hq,fT hq,eS hq,eF,cM,dV,cF,dW,cG,dU,cE];apply Z;refine zr ⟨[],[],[3],[],[]⟩ fun _ _ Z=>?_;simp(disch:=omega)[aI,aF,aB,aA,hq,eI hq,fU hq,cO hq,fT hq,eS hq,eF,cM,dV,cF,dW,cG,dU,cE];and_intros<;>(try omega);apply Z;refine zk [0,2,3] ?_;refine zd ⟨[],[],[3],[],[]⟩ [.op {},.op {},.op {},.op {rO:=true},.pure,.op {},.op {},.op {},.op {rO:=true},.read,.op {},.op {rO:=true,wO:=true},.op {},.op {rO:=true,wO:=true}] fun all hall _ Z=>?_;refine kY 4 fun _ Y=>?_;simp(disch:=omega)[aI,aF,aB,aA,hq,eI hq,fU hq,cO hq,fT hq,eS hq,eF,cM,dV,cF,dW,cG,dU,cE];apply Y;refine bJ fun _ Y=>?_;simp(disch:=omega)[aI,aF,aB,aA,hq,eI hq,fU hq,cO hq,fT hq,eS hq,eF,cM,dV,cF,dW,cG,dU,cE];refine rG (fun _=>(wR [] _ (by decide))) ?_;apply Y;refine kY 4 fun _ Y=>?_;simp(disch:=omega)[aI,aF,aB,aA,hq,eI hq,fU hq,cO hq,fT hq,eS hq,eF,cM,dV,cF,dW,cG,dU,cE];apply Y;refine bJ fun _ Y=>?_;simp(disch:=omega)[aI,aF,aB,aA,hq,eI hq,fU hq,cO hq,fT hq,eS hq,eF,cM,dV,cF,dW,cG,dU,cE];refine zdr (Vr σ.length cap [] rest _ (by decide) (by simp [eF])) ?_;apply Y;simp(disch:=omega)[aI,aF,aB,aA,hq,eI hq,fU hq,cO hq,fT hq,eS hq,eF,cM,dV,cF,dW,cG,dU,cE];apply Z;refine zk [0,2,3] ?_;refine zd ⟨[],[],[3],[],[]⟩ [.op {},.op {},.op {},.op {rO:=true},.pure,.op {},.op {},.op {},.op {rO:=true},.pure,.op {},.op {rO:=true,wO:=true},.op {},.op {rO:=true,wO:=true}] fun all hall _ Z=>?_;refine kY 4 fun _ Y=>?_;simp(disch:=omega)[aI,aF,aB,aA,hq,eI hq,fU hq,cO hq,fT hq,eS hq,eF,cM,dV,cF,dW,cG,dU,cE];apply Y;refine bJ fun _ Y=>?_;simp(disch:=omega)[aI,aF,aB,aA,hq,eI hq,fU hq,cO hq,fT hq,eS hq,eF,cM,dV,cF,dW,cG,dU,cE];refine rG (fun _=>(xV [] _ (by decide))) ?_;apply Y;refine kY 4 fun _ Y=>?_;simp(disch:=omega)[aI,aF,aB,aA,hq,eI hq,fU hq,cO hq,fT hq,eS hq,eF,cM,dV,cF,dW,cG,dU,cE];apply Y;refine bJ fun _ Y=>?_;simp(disch:=omega)[aI,aF,aB,aA,hq,eI hq,fU hq,cO hq,fT hq,eS hq,eF,cM,dV,cF,dW,cG,dU,cE];refine rG (fun _=>(xX [] _ (by decide))) ?_;apply Y;simp(disch:=omega)[aI,aF,aB,aA,hq,eI hq,fU hq,cO hq,fT hq,eS hq,eF,cM,dV,cF,dW,cG,dU,cE];apply Z;refine zk [2,3] ?_;refine zr ⟨[],[],[3],[],[]⟩ fun _ _ Z=>?_;simp(disch:=omega)[aI,aF,aB,aA,hq,eI hq,fU hq,cO hq,fT hq,eS hq,eF,cM,dV,cF,dW,cG,dU,cE];apply Z;refine zK o 8 1 σ.length 0 cap (([]:List Int).map D.int) _ (([]:List Int).map D.int++rest) (fU hq _ _) rfl (by simp [eF]) (by have:=Cl hq;omega) (by decide) (by simp [hrest]) (by simp) hes (by rw [mG (f:=D.int) (fun _=>rfl)];exact dA _ _) ?_;simp only [aFd,fT hq,cM];rw [show [D.int 0,D.int 2,D.str cT,D.str ⟨#[]⟩,.sl false [],.sl false [],.sl false [],D.int (-1),D.xs 1 (([]:List Int).map D.int)]=jI from rfl,mY hq];refine kC (σ.length+1) (aHt (.sl false [])) (by simp;rfl) (by simp [Ss,D.s1]) ?_;apply aC;simp [aT]
def snK(k:Nat):List Nat:=if k=0 then [] else [0]
theorem aHr:snK 0= []:=rfl
theorem aKz:snK (0+1)= []++ [0]:=rfl
def So(σ:List (List D))(most:Int)(k:Nat):List (List D):=if k=0 then σ++ [[], [D.int most,D.int 1,.mp σ.length (.int .i64) 0 []]] else σ++ [[],uV σ.length most (σ.length+3), [],jI]
theorem Rv {m:Nat} {c:List D} (h:σ[m]?=some c)(most:Int)(k:Nat):(So σ most k)[m]?=some c:=by unfold So;split <;> exact cO h _
theorem aIi(σ:List (List D))(most:Int):(So σ most 0)[σ.length+1]?=some [D.int most,D.int 1,.mp σ.length (.int .i64) 0 []]:=by
 unfold So;rw [aR rfl,bI (by omega),show σ.length+1 - σ.length=1 by omega];rfl
theorem aG4(σ:List (List D))(most:Int):(So σ most 0).length=σ.length+2:=by unfold So;rw [aR rfl];simp
theorem aMl(σ:List (List D))(most:Int):So σ most 0=σ++ [[], [D.int most,D.int 1,.mp σ.length (.int .i64) 0 []]]:=rfl
theorem aD2(σ:List (List D))(most:Int):(So σ most 0++ [[],jI]).set (σ.length+1) [D.int most,D.int 1,.mp σ.length (.int .i64) 1 [(.int .i64 0,0,.ref ((So σ most 0).length+1) 0)]]=So σ most (0+1):=by
 rw [aG4];unfold So;rw [aR rfl,aG (by decide),bN,jF _ _ (by omega),show σ.length+1 - σ.length=1 by omega];rfl
theorem aEh {o j:Nat} {key:Value} {s:Nat} {dv:D} (h:(kv0 o)[j]?=some (key,s,dv)):j=0/\s=0/\key= .int .i64 0/\dv= .ref o 0:=by
 match j,h with
 | 0,h=>simp at h;exact⟨rfl,h.2.1.symm,h.1.symm,h.2.2.symm⟩
 | j+1,h=>simp at h
@[simp] abbrev q36_1:Cfg:=⟨[],[],[21],[],[18,18,1000018]⟩
theorem Ws(m M o:Nat)(most:Int)(σ:List (List D))(hq:σ[m]?=some (uV M most o))(hr:σ[o]?=some jI):Ct prog 41 [.ref m 0] σ (fun r σ'=>r= .ref (σ.length+1) 0/\σ'=σ++ [[],uV σ.length most (σ.length+3), [],jI]):=by
 refine zf func41 ?_;have hqc:=fun k=>Rv hq most k;have hbc:=aIi σ most;refine zr q36_1 fun _ _ Z=>?_;simp(disch:=omega)[hq,hqc,hbc,aI,aF,aB,aA,cO];apply Z;refine zd q36_1 [.op {},.op {},.op {},.op {rO:=true},.op {},.op {},.op {},.op {rO:=true},.op {},.op {},.op {},.op {rO:=true},.op {rO:=true},.op {rO:=true,wO:=true},.op {},.op {rO:=true,wO:=true},.op {}] fun all hall _ Z=>?_;refine kY 8 fun _ Y=>?_;simp(disch:=omega)[hq,hqc,hbc,aI,aF,aB,aA,cO];apply Y;refine kY 5 fun _ Y=>?_;simp(disch:=omega)[hq,hqc,hbc,aI,aF,aB,aA,cO];refine⟨m,2,1,_,⟨_,hq,rfl⟩,?_⟩;simp only [bU,dO];and_intros<;>(try omega);apply Y;simp(disch:=omega)[hq,hqc,hbc,aI,aF,aB,aA,cO];and_intros<;>(try omega);apply Z;apply aE;refine pJ 19 (σ.length+1) 2 (N:=σ.length) (kd:= .int .i64) (clock:=0) (kvs:= []) (by simp) (by simp [aI,aB] <;> rfl) (by simp <;> rfl) ?_;simp only [aF,bZ,cN];rw [<- aMl σ most];refine zk [0,2,3] ?_;refine zr q36_1 fun _ _ Z=>?_;simp(disch:=omega)[hq,hqc,hbc,aI,aF,aB,aA,cO];refine⟨m,2,1,⟨_,_,hqc 0,rfl⟩,?_⟩;and_intros<;>(try omega);apply Z;apply aQ;refine zk [2,3,26] ?_;refine qD (fun(k:Nat)=> [(26,.d (.mit M 1 (snK k) 1)),(4,.d (.any)),(5,.d (.any))]) (fun(k:Nat)=> []) (fun(k:Nat)=>So σ most k) [4,5,26,27,28,29,30,31,32,33,34,35,36,37,38] (fun(k:Nat)=>k<=1) (fun(k:Nat)=>1 - k) (0) (by simp <;> rfl) ?_ (by simp) (by simp) ?_ ?_
 .simp [aHr]
 .exact cH _
 rintro k hk;simp only [aO,aK];refine zr q36_1 fun _ _ Z=>?_;refine aD fun _ Y=>?_;simp(disch:=omega)[hq,hqc,hbc,aI,aF,aB,aA,cO];refine⟨m,2,.int .i64,1,kv0 o,⟨⟨_,hqc k,rfl⟩,rfl⟩,fun hnd=>⟨fun n1=>Y _ ?_,fun j s key dv hj hns=>Y _ ?_⟩⟩
 .simp(disch:=omega)[hq,hqc,hbc,aI,aF,aB,aA,cO];apply Z;apply aE;refine cJ (t:=false) (by simp) (fun h=>by cases h) (fun _=>?_);apply zE;refine zr q36_1 fun _ _ Z=>?_;simp(disch:=omega)[hq,hqc,hbc,aI,aF,aB,aA,cO];apply Z;apply aC;have hk1:k=1:=by
   rcases nY 0 k with h | h
   .omega
   exfalso;obtain rfl:k=0:=by omega
   have n9:=n1 0 0 _ _ rfl;simp [snK] at n9
  subst hk1;simp [aT,So]
 obtain⟨rfl,rfl,rfl,rfl⟩:=aEh hj;obtain rfl:k=0:=by
  rcases nY 0 k with h | h
  .exfalso;apply hns;unfold snK;rw [aG (by omega)];simp
  omega
 have hrc:=Rv hr most 0;simp(disch:=omega)[hq,hqc,hbc,aI,aF,aB,aA,cO];apply Z;apply aE;refine cJ (t:=true) (by simp) (fun _=>?_) (fun h=>by cases h);apply zA;apply aQ;refine zr q36_1 fun _ _ Z=>?_;refine zs 1 fun _ Y=>?_;simp(disch:=omega)[hq,hqc,hbc,aI,aF,aB,aA,cO];refine⟨m,2,.int .i64,1,kv0 o,snK 0,0,.int .i64 0,.ref o 0,⟨⟨_,hqc 0,rfl⟩,rfl,⟨rfl,rfl⟩,⟨0,rfl⟩,rfl⟩,?_⟩;and_intros<;>(try omega);apply Y;simp(disch:=omega)[hq,hqc,hbc,aI,aF,aB,aA,cO];apply Z;refine zk [2,3,4,5,26] ?_;refine ze q36_1 [.op {},.op {},.op {},.op {rO:=true},.op {},.op {},.detA,.op {rO:=true,wO:=true}] fun all hall _ Z=>?_;refine kY 6 fun _ Y=>?_;simp(disch:=omega)[hq,hqc,hbc,aI,aF,aB,aA,cO];apply Y;refine bJ fun _ Y=>?_;simp(disch:=omega)[hq,hqc,hbc,aI,aF,aB,aA,cO];refine zda ([[],jI]) (Pr o _ hrc) ?_;apply Y;simp(disch:=omega)[hq,hqc,hbc,aI,aF,aB,aA,cO];refine⟨σ.length+1,2,0, [],_,_,⟨⟨_,cO hbc _,rfl⟩,aI7 _,rfl,.inr ⟨by simp,rfl,rfl⟩⟩,?_⟩;rw [Ra (cO hbc _)];and_intros<;>(try omega);apply Z;apply iP;refine eL (0+1) ?_ ?_ (bT rfl ?_ (by simp) (by simpa using aD2 σ most))
 .omega
 .omega
 simp(disch:=omega)[hq,hqc,hbc,aI,aF,aB,aA,cO,aHr,aKz]
structure ND where
 ID:Int
 kind:Int
 tag:ByteArray
 text:ByteArray
 classes:(List ByteArray)
 attrs:(List AT)
 styles:(List PI)
 parent:Int
 kids:(List Int)
 deriving DecidableEq
@[simp] abbrev aI5(s:ND):D:= .agg [.v (.int .i64 s.ID),.v (.int .i64 s.kind),.v (.string s.tag),.v (.string s.text),.sl false (s.classes.map D.str),.sl false (s.attrs.map cD),.sl false (s.styles.map bV),.v (.int .i64 s.parent),.sl false (s.kids.map D.int)]
@[simp] abbrev aP4(s:ND):D:= .agg [.v (.int .i64 s.ID),.v (.int .i64 s.kind),.v (.string s.tag),.v (.string s.text),.sl true (s.classes.map D.str),.sl true (s.attrs.map cD),.sl true (s.styles.map bV),.v (.int .i64 s.parent),.sl true (s.kids.map D.int)]
def pV:ND:=⟨0,2,cT,⟨#[]⟩, [], [], [], -1, []⟩
def fI:TN:=⟨0,2,cT,⟨#[]⟩, [], [], [], []⟩
theorem aIe {o:Nat} (z:D):aE6 (kv0 o) (.int .i64 0) z (.ref o 0) true:= .inl ⟨rfl,0,0,rfl⟩
theorem aMh(N:Nat)(n:ND):Sc N (aI5 n):=Sc.agg fun d hd=>by
 simp only [fQ,kA,kD] at hd;rcases hd with rfl | rfl | rfl | rfl | rfl | rfl | rfl | rfl | rfl
 .exact Sc.v _
 .exact Sc.v _
 .exact Sc.v _
 .exact Sc.v _
 .exact Sc.sl (Sc.map fun a=>Gv _ a)
 .exact Sc.sl (Sc.map fun a=>Hz _ a)
 .exact Sc.sl (Sc.map fun a=>Gp _ a)
 .exact Sc.v _
 exact Sc.sl (Sc.map fun a=>Sc.v _)
theorem aHc(m M o:Nat)(most:Int)(σ:List (List D))(hq:σ[m]?=some (uV M most o))(hr:σ[o]?=some jI):Ct prog 83 [.ref m 0,D.int 0] σ (fun r σ'=>r= .tup [aI5 pV,.bool true]/\∃J,σ'=σ++J):=by
 refine zf func83 ?_;refine cL fun _ _ Z=>?_;simp(disch:=omega)[hq,hr,aI,aF,aB,aA];apply Z;refine cL fun _ _ Z=>?_;refine zs 6 fun _ Y=>?_;simp(disch:=omega)[hq,hr,aI,aF,aB,aA];refine⟨m,2,1,_,.ref o 0,.inr ⟨⟨⟨_,hq,rfl⟩,aI7 _,aIe _⟩,?_⟩⟩;and_intros<;>(try omega);apply Y;simp(disch:=omega)[hq,hr,aI,aF,aB,aA];apply Z;apply aE;refine zk [4,5,6,7] ?_;refine cL fun _ _ Z=>?_;simp(disch:=omega)[hq,hr,aI,aF,aB,aA];apply Z;refine zI ?_ ?_<;>intro c1<;>try simp at c1
 apply zA;refine cL fun _ _ Z=>?_;refine zs 1 fun _ Y=>?_;simp(disch:=omega)[hq,hr,aI,aF,aB,aA];apply Y;refine aD fun _ Y=>?_;simp(disch:=omega)[hq,hr,aI,aF,aB,aA];refine eH (Vn o _ hr) ?_;apply Y;simp(disch:=omega)[hq,hr,aI,aF,aB,aA];apply Z;apply aC;simp [aT,pV]
theorem aJu(m M o:Nat)(most:Int)(σ:List (List D))(hq:σ[m]?=some (uV M most o))(hr:σ[o]?=some jI):Ct prog 83 [.ref m 0,D.int 0] σ (fun r σ'=>r= .tup [aI5 pV,.bool true]/\σ'=σ):=
 (aHc m M o most σ hq hr).trim fun r σ' ⟨hr,J,hs⟩=>⟨σ,J,hs,rfl,by rw [hr];exact Rt (aMh _ _) (Sc.v _),fun n cs h=> .inl h,hr,rfl⟩
theorem aDp(m M o:Nat)(most:Int)(σ:List (List D))(hq:σ[m]?=some (uV M most o))(hr:σ[o]?=some jI):Ct prog 47 [.ref m 0,D.int 0] σ (fun r σ'=>(r.plain=true/\r.strip= .tup [iQ fI,D.int 0])/\σ'=σ):=by
 refine zf func47 ?_;refine zr ⟨[50],[],[],[],[]⟩ fun _ _ Z=>?_;simp(disch:=omega)[pV];apply Z;refine zr ⟨[50],[],[],[],[]⟩ fun _ _ Z=>?_;refine zs 2 fun _ Y=>?_;simp(disch:=omega)[pV];apply Y;refine aD fun _ Y=>?_;simp(disch:=omega)[pV];refine eH (aJu m M o most _ hq hr) ?_;apply Y;simp(disch:=omega)[pV];apply Z;apply aE;refine zr ⟨[50],[],[],[],[]⟩ fun _ _ Z=>?_;simp(disch:=omega)[pV];apply Z;refine zI ?_ ?_<;>intro c1<;>try simp at c1
 apply zA;refine zk [0,1,4,5,6] ?_;refine zr ⟨[50],[],[],[],[]⟩ fun _ _ Z=>?_;refine zs 8 fun _ Y=>?_;simp(disch:=omega)[pV];apply Y;simp(disch:=omega)[pV];apply Z;apply aE;refine zk [0,4,5,6,8] ?_;refine zr ⟨[50],[],[],[],[]⟩ fun _ _ Z=>?_;simp(disch:=omega)[pV];and_intros<;>(try omega);apply Z;apply aQ;refine zk [0,4,5,8,37,38,39] ?_;refine bK (fun(k:Nat)=> [(39,.d (.v (.int .i64 (k:Int)))),(10,.d (.any)),(43,.d (.any)),(12,.d (.any))]) [10,11,12,39,40,41,42,43,44,45,46,47,48,49,50,51,52,53,54,55] (fun(k:Nat)=>k=0) (fun(k:Nat)=>0) (0) (by simp <;> rfl) ?_ ?_ ?_
 .simp
 .simp
 rintro k hk;simp only [aO,aK];refine zr ⟨[50],[],[],[],[]⟩ fun _ _ Z=>?_;simp(disch:=omega)[pV];apply Z;apply aE;refine zI ?_ ?_<;>intro c2<;>try simp at c2
 .exfalso;omega
 apply zE;refine zr ⟨[50],[],[],[],[]⟩ fun _ _ Z=>?_;simp(disch:=omega)[pV];apply Z;apply aC;simp [aT,fI]
theorem aGu(m M o:Nat)(most:Int)(σ:List (List D))(hq:σ[m]?=some (uV M most o))(hr:σ[o]?=some jI):Ct prog 47 [.ref m 0,D.int 0] σ (fun r σ'=>r= .tup [iQ fI,D.int 0]/\σ'=σ):=(aDp m M o most σ hq hr).strip fun r σ' h=>⟨h.1.1,h.1.2,h.2⟩
end Go.Proofs.YtbdjepeabjangaaGreat
