import Derived.Test.YtbgfljpnhhdkoaaGreatVmTab
import Derived.Test.YtbgfljpnhhdkoaaGreatVmZ
set_option linter.all false
set_option maxRecDepth 20000
set_option maxHeartbeats 8000000
open Go.Proofs.Tryz
namespace Go.Proofs.YtbgfljpnhhdkoaaGreat
open Go Go.Vm
variable {c s:ByteArray}{k:Nat}{p:Int->Bool}
def kR(s:ByteArray)(k:Nat):Int:=((s.data[k]?.getD 0).toNat:Int)
def Te(p:Int->Bool)(s:ByteArray):Bool:=(List.range s.size).all fun k=>p (kR s k)
theorem aH8 (h:∀j,j<k->p (kR s j)=true)(hk:s.size<=k):Te p s=true:=by
 unfold Te;rw [gE];intro j hj;exact h j (by have:=dS.1 hj;omega)
theorem aIj (h:p (kR s k)=false)(hk:k<s.size):Te p s=false:=by
 rw [<- xU];intro hh;unfold Te at hh;rw [gE] at hh;have:=hh k (dS.2 hk);rw [h] at this;cases this
theorem aSc (h:Te p s=true)(k:Nat)(hk:k<s.size):p (kR s k)=true:=by
 unfold Te at h;rw [gE] at h;exact h k (dS.2 hk)
theorem Iy (h:∀j,j<k->p (kR s j)=true)(h2:p (kR s k)=true):∀j,j<k+1->p (kR s j)=true:=fun j hj=>by
 rcases Mh.1 hj with h1 | rfl
 .exact h j h1
 exact h2
def Ly(x0:Int)(x1:Int)(x2:Int):Int:=max x1 (min x0 x2)
theorem aOa(x0:Int)(x1:Int)(x2:Int)(σ:List (List D))  :Ct prog 131 [.v (.int .i64 x0),.v (.int .i64 x1),.v (.int .i64 x2)] σ (fun r σ'=>r= .v (.int .i64 (Ly x0 x1 x2))/\σ'=σ):=by
 refine zf func131 ?_;refine bC fun all K Z=>?_;simp;apply Z;clear Z K all;refine bC fun all K Z=>?_;simp;and_intros<;>(try omega);apply Z;clear Z K all;apply aC;first | (simp [aG,Ly];done) | (simp [aG,Ly];done) | (simp [aG];unfold Ly;(repeat' split) <;> first | (exfalso;omega) | (simp_all;done)) | (simp [aG,Ly, *];done) | (simp_all [aG,Ly];done) | (simp_all [aG,Ly];omega) | (simp [aG,Ly] <;> split <;> omega)
def Ae(x0:Int):Int:=max (-2147483648) (min x0 2147483647)
theorem Rg(x0:Int)(σ:List (List D))  :Ct prog 238 [.v (.int .i64 x0)] σ (fun r σ'=>r= .v (.int .i64 (Ae x0))/\σ'=σ):=by
 refine zf func238 ?_;refine bC fun all K Z=>?_;simp;apply Z;clear Z K all;refine bC fun all K Z=>?_;simp;and_intros<;>(try omega);apply Z;clear Z K all;apply aC;first | (simp [aG,Ae];done) | (simp [aG,Ae];done) | (simp [aG];unfold Ae;(repeat' split) <;> first | (exfalso;omega) | (simp_all;done)) | (simp [aG,Ae, *];done) | (simp_all [aG,Ae];done) | (simp_all [aG,Ae];omega) | (simp [aG,Ae] <;> split <;> omega)
def rI(x0:Int):Int:=if x0 > 2147483647 then 2147483647
 else if x0<(-2147483648)then(-2147483648)
  else x0
theorem aPe(x0:Int)(σ:List (List D))  :Ct prog 74 [.v (.int .i64 x0)] σ (fun r σ'=>r= .v (.int .i64 (rI x0))/\σ'=σ):=by
 refine zf func74 ?_;refine bC fun all K Z=>?_;simp;apply Z;clear Z K all;apply aE;refine bC fun all K Z=>?_;simp;apply Z;clear Z K all;refine zI ?_ ?_<;>intro c1<;>try simp at c1
 .all_goals try (exfalso;omega)
  all_goals
   refine bC fun all K Z=>?_;simp;apply Z;clear Z K all;apply aC;first | (simp [aG,rI,c1];done) | (simp [aG,rI];done) | (simp [aG];unfold rI;(repeat' split) <;> first | (exfalso;omega) | (simp_all;done)) | (simp [aG,rI, *];done) | (simp_all [aG,rI];done) | (simp_all [aG,rI];omega) | (simp [aG,rI] <;> split <;> omega)
 all_goals try (exfalso;omega)
 all_goals
  apply zA;apply aE;refine bC fun all K Z=>?_;simp;apply Z;clear Z K all;refine zI ?_ ?_<;>intro c2<;>try simp at c2
  .all_goals try (exfalso;omega)
   all_goals
    refine bC fun all K Z=>?_;simp;apply Z;clear Z K all;apply aC;first | (simp [aG,rI,c1,c2];done) | (simp [aG,rI];done) | (simp [aG];unfold rI;(repeat' split) <;> first | (exfalso;omega) | (simp_all;done)) | (simp [aG,rI, *];done) | (simp_all [aG,rI];done) | (simp_all [aG,rI];omega) | (simp [aG,rI] <;> split <;> omega)
  all_goals try (exfalso;omega)
  all_goals
   apply zA;refine bC fun all K Z=>?_;simp;apply Z;clear Z K all;apply aC;first | (simp [aG,rI,c1,c2];done) | (simp [aG,rI];done) | (simp [aG];unfold rI;(repeat' split) <;> first | (exfalso;omega) | (simp_all;done)) | (simp [aG,rI, *];done) | (simp_all [aG,rI];done) | (simp_all [aG,rI];omega) | (simp [aG,rI] <;> split <;> omega)
def kZ(x0:Int):Bool:=if x0>=97 then decide (x0<=122)
 else false
theorem Ow(x0:Int)(σ:List (List D))  :Ct prog 228 [.v (.int .u8 x0)] σ (fun r σ'=>r= .v (.bool (kZ x0))/\σ'=σ):=by
 refine zf func228 ?_;refine bC fun all K Z=>?_;simp;apply Z;clear Z K all;refine mE ⟨[],[],[],[],[]⟩ fun all hall K Z=>?_;have ga2:aO all 2=some 5:=hall 2;clear hall;refine zs 3 fun K' Y=>?_;simp[ga2];apply Y;clear Y K';refine zb 5 ?_ ?_<;>intro g1<;>try simp at g1
 .all_goals try (exfalso;omega)
  all_goals
   simp[ga2];apply Z;clear Z K ga2 all;apply aC;first | (simp [aG,kZ,g1];done) | (simp [aG,kZ];done) | (simp [aG];unfold kZ;(repeat' split) <;> first | (exfalso;omega) | (simp_all;done)) | (simp [aG,kZ, *];done) | (simp_all [aG,kZ];done) | (simp_all [aG,kZ];omega) | (simp [aG,kZ] <;> split <;> omega)
 all_goals try (exfalso;omega)
 all_goals
  simp[ga2];apply Z;clear Z K ga2 all;apply aC;first | (simp [aG,kZ,g1];done) | (simp [aG,kZ];done) | (simp [aG];unfold kZ;(repeat' split) <;> first | (exfalso;omega) | (simp_all;done)) | (simp [aG,kZ, *];done) | (simp_all [aG,kZ];done) | (simp_all [aG,kZ];omega) | (simp [aG,kZ] <;> split <;> omega)
def qR(x0:Int):Bool:=if x0>=48 then decide (x0<=57)
 else false
theorem aKw(x0:Int)(σ:List (List D))  :Ct prog 267 [.v (.int .u8 x0)] σ (fun r σ'=>r= .v (.bool (qR x0))/\σ'=σ):=by
 refine zf func267 ?_;refine bC fun all K Z=>?_;simp;apply Z;clear Z K all;refine mE ⟨[],[],[],[],[]⟩ fun all hall K Z=>?_;have ga2:aO all 2=some 5:=hall 2;clear hall;refine zs 3 fun K' Y=>?_;simp[ga2];apply Y;clear Y K';refine zb 5 ?_ ?_<;>intro g1<;>try simp at g1
 .all_goals try (exfalso;omega)
  all_goals
   simp[ga2];apply Z;clear Z K ga2 all;apply aC;first | (simp [aG,qR,g1];done) | (simp [aG,qR];done) | (simp [aG];unfold qR;(repeat' split) <;> first | (exfalso;omega) | (simp_all;done)) | (simp [aG,qR, *];done) | (simp_all [aG,qR];done) | (simp_all [aG,qR];omega) | (simp [aG,qR] <;> split <;> omega)
 all_goals try (exfalso;omega)
 all_goals
  simp[ga2];apply Z;clear Z K ga2 all;apply aC;first | (simp [aG,qR,g1];done) | (simp [aG,qR];done) | (simp [aG];unfold qR;(repeat' split) <;> first | (exfalso;omega) | (simp_all;done)) | (simp [aG,qR, *];done) | (simp_all [aG,qR];done) | (simp_all [aG,qR];omega) | (simp [aG,qR] <;> split <;> omega)
def plain(x0:Int):Bool:=if(kZ x0)=true then true
 else if(qR x0)=true then true
  else decide (x0=45)
theorem aG7(x0:Int)(σ:List (List D))  :Ct prog 254 [.v (.int .u8 x0)] σ (fun r σ'=>r= .v (.bool (plain x0))/\σ'=σ):=by
 refine zf func254 ?_;refine bC fun all K Z=>?_;simp;apply Z;clear Z K all;refine mE ⟨[],[],[],[],[]⟩ fun all hall K Z=>?_;have ga2:aO all 2=some 5:=hall 2;have ga6:aO all 6=some 9:=hall 6;clear hall;refine zs 1 fun K' Y=>?_;simp[ga2,ga6];apply Y;clear Y K';refine aF fun K' Y=>?_;simp[ga2,ga6];refine cN (Ow x0 _) ?_;apply Y;clear Y K';refine zs 1 fun K' Y=>?_;simp[ga2,ga6];apply Y;clear Y K';refine zb 5 ?_ ?_<;>intro g1<;>try simp at g1
 .all_goals try (exfalso;omega)
  all_goals
   refine zs 4 fun K' Y=>?_;simp[ga2,ga6];apply Y;clear Y K';simp[ga2,ga6];apply Z;clear Z K ga2 ga6 all;apply aC;first | (simp [aG,plain,g1];done) | (simp [aG,plain];done) | (simp [aG];unfold plain;(repeat' split) <;> first | (exfalso;omega) | (simp_all;done)) | (simp [aG,plain, *];done) | (simp_all [aG,plain];done) | (simp_all [aG,plain];omega) | (simp [aG,plain] <;> split <;> omega)
 all_goals try (exfalso;omega)
 all_goals
  refine zs 1 fun K' Y=>?_;simp[ga2,ga6];apply Y;clear Y K';refine zg ga2 fun K' Y=>?_;simp[ga2,ga6];refine cN (aKw x0 _) ?_;apply Y;clear Y K';refine zs 2 fun K' Y=>?_;simp[ga2,ga6];apply Y;clear Y K';refine zb 9 ?_ ?_<;>intro g2<;>try simp at g2
  .all_goals try (exfalso;omega)
   all_goals
    simp[ga2,ga6];apply Z;clear Z K ga2 ga6 all;apply aC;first | (simp [aG,plain,g1,g2];done) | (simp [aG,plain];done) | (simp [aG];unfold plain;(repeat' split) <;> first | (exfalso;omega) | (simp_all;done)) | (simp [aG,plain, *];done) | (simp_all [aG,plain];done) | (simp_all [aG,plain];omega) | (simp [aG,plain] <;> split <;> omega)
  all_goals try (exfalso;omega)
  all_goals
   simp[ga2,ga6];apply Z;clear Z K ga2 ga6 all;apply aC;first | (simp [aG,plain,g1,g2];done) | (simp [aG,plain];done) | (simp [aG];unfold plain;(repeat' split) <;> first | (exfalso;omega) | (simp_all;done)) | (simp [aG,plain, *];done) | (simp_all [aG,plain];done) | (simp_all [aG,plain];omega) | (simp [aG,plain] <;> split <;> omega)
def dH (x0 : Int) : Bool := if x0 >= 97 then if x0 <= 122 then true
  else if x0>=48 then if x0<=57 then true
    else decide (x0=45)
   else decide (x0=45)
 else if x0>=48 then if x0<=57 then true
   else decide (x0=45)
  else decide (x0=45)
theorem aC8 (x0 : Int) (σ : List (List D))  : Ct prog 216 [.v (.int .u8 x0)] σ (fun r σ' => r = .v (.bool (dH x0)) /\ σ' = σ) := by
 refine zf func216 ?_;refine bC fun all K Z=>?_;simp;apply Z;clear Z K all;refine mE ⟨[],[],[],[],[]⟩ fun all hall K Z=>?_;have ga2:aO all 2=some 5:=hall 2;have ga6:aO all 6=some 9:=hall 6;have ga9:aO all 9=some 12:=hall 9;have ga14:aO all 14=some 17:=hall 14;clear hall;refine zs 3 fun K' Y=>?_;simp[ga2,ga6,ga9,ga14];apply Y;clear Y K';refine zb 5 ?_ ?_<;>intro g1<;>try simp at g1
 .all_goals try (exfalso;omega)
  all_goals
   refine zs 4 fun K' Y=>?_;simp[ga2,ga6,ga9,ga14];apply Y;clear Y K';refine zb 9 ?_ ?_<;>intro g2<;>try simp at g2
   .all_goals try (exfalso;omega)
    all_goals
     refine zs 8 fun K' Y=>?_;simp[ga2,ga6,ga9,ga14];apply Y;clear Y K';simp[ga2,ga6,ga9,ga14];apply Z;clear Z K ga2 ga6 ga9 ga14 all;apply aC;first | (simp [aG,dH,g1,g2];done) | (simp [aG,dH];done) | (simp [aG];unfold dH;(repeat' split) <;> first | (exfalso;omega) | (simp_all;done)) | (simp [aG,dH, *];done) | (simp_all [aG,dH];done) | (simp_all [aG,dH];omega) | (simp [aG,dH] <;> split <;> omega)
   all_goals try (exfalso;omega)
   all_goals
    refine zs 3 fun K' Y=>?_;simp[ga2,ga6,ga9,ga14];apply Y;clear Y K';refine zb 12 ?_ ?_<;>intro g3<;>try simp at g3
    .all_goals try (exfalso;omega)
     all_goals
      refine zs 5 fun K' Y=>?_;simp[ga2,ga6,ga9,ga14];apply Y;clear Y K';refine zb 17 ?_ ?_<;>intro g4<;>try simp at g4
      .all_goals try (exfalso;omega)
       all_goals
        simp[ga2,ga6,ga9,ga14];apply Z;clear Z K ga2 ga6 ga9 ga14 all;apply aC;first | (simp [aG,dH,g1,g2,g3,g4];done) | (simp [aG,dH];done) | (simp [aG];unfold dH;(repeat' split) <;> first | (exfalso;omega) | (simp_all;done)) | (simp [aG,dH, *];done) | (simp_all [aG,dH];done) | (simp_all [aG,dH];omega) | (simp [aG,dH] <;> split <;> omega)
      all_goals try (exfalso;omega)
      all_goals
       simp[ga2,ga6,ga9,ga14];apply Z;clear Z K ga2 ga6 ga9 ga14 all;apply aC;first | (simp [aG,dH,g1,g2,g3,g4];done) | (simp [aG,dH];done) | (simp [aG];unfold dH;(repeat' split) <;> first | (exfalso;omega) | (simp_all;done)) | (simp [aG,dH, *];done) | (simp_all [aG,dH];done) | (simp_all [aG,dH];omega) | (simp [aG,dH] <;> split <;> omega)
    all_goals try (exfalso;omega)
    all_goals
     refine zs 5 fun K' Y=>?_;simp[ga2,ga6,ga9,ga14];apply Y;clear Y K';simp[ga2,ga6,ga9,ga14];apply Z;clear Z K ga2 ga6 ga9 ga14 all;apply aC;first | (simp [aG,dH,g1,g2,g3];done) | (simp [aG,dH];done) | (simp [aG];unfold dH;(repeat' split) <;> first | (exfalso;omega) | (simp_all;done)) | (simp [aG,dH, *];done) | (simp_all [aG,dH];done) | (simp_all [aG,dH];omega) | (simp [aG,dH] <;> split <;> omega)
 all_goals try (exfalso;omega)
 all_goals
  refine zs 4 fun K' Y=>?_;simp[ga2,ga6,ga9,ga14];apply Y;clear Y K';refine zs 3 fun K' Y=>?_;simp[ga2,ga6,ga9,ga14];apply Y;clear Y K';refine zb 12 ?_ ?_<;>intro g5<;>try simp at g5
  .all_goals try (exfalso;omega)
   all_goals
    refine zs 5 fun K' Y=>?_;simp[ga2,ga6,ga9,ga14];apply Y;clear Y K';refine zb 17 ?_ ?_<;>intro g6<;>try simp at g6
    .all_goals try (exfalso;omega)
     all_goals
      simp[ga2,ga6,ga9,ga14];apply Z;clear Z K ga2 ga6 ga9 ga14 all;apply aC;first | (simp [aG,dH,g1,g5,g6];done) | (simp [aG,dH];done) | (simp [aG];unfold dH;(repeat' split) <;> first | (exfalso;omega) | (simp_all;done)) | (simp [aG,dH, *];done) | (simp_all [aG,dH];done) | (simp_all [aG,dH];omega) | (simp [aG,dH] <;> split <;> omega)
    all_goals try (exfalso;omega)
    all_goals
     simp[ga2,ga6,ga9,ga14];apply Z;clear Z K ga2 ga6 ga9 ga14 all;apply aC;first | (simp [aG,dH,g1,g5,g6];done) | (simp [aG,dH];done) | (simp [aG];unfold dH;(repeat' split) <;> first | (exfalso;omega) | (simp_all;done)) | (simp [aG,dH, *];done) | (simp_all [aG,dH];done) | (simp_all [aG,dH];omega) | (simp [aG,dH] <;> split <;> omega)
  all_goals try (exfalso;omega)
  all_goals
   refine zs 5 fun K' Y=>?_;simp[ga2,ga6,ga9,ga14];apply Y;clear Y K';simp[ga2,ga6,ga9,ga14];apply Z;clear Z K ga2 ga6 ga9 ga14 all;apply aC;first | (simp [aG,dH,g1,g5];done) | (simp [aG,dH];done) | (simp [aG];unfold dH;(repeat' split) <;> first | (exfalso;omega) | (simp_all;done)) | (simp [aG,dH, *];done) | (simp_all [aG,dH];done) | (simp_all [aG,dH];omega) | (simp [aG,dH] <;> split <;> omega)
theorem aQ1(x:Int):rI x=Ae x:=by
 unfold rI Ae
 repeat' split
 all_goals first | rfl | omega | skip
theorem Zq(x:Int):kZ x=true↔97<=x/\x<=122:=by unfold kZ;simp
theorem Nq(x:Int):plain x=true↔(97<=x/\x<=122)\/(48<=x/\x<=57)\/x=45:=by
 unfold plain kZ qR;repeat' split
 all_goals simp_all
 all_goals omega
theorem Wo(x:Int):dH x=true↔(97<=x/\x<=122)\/(48<=x/\x<=57)\/x=45:=by
 unfold dH;repeat' split
 all_goals simp_all
 all_goals omega
theorem Om(x:Int):dH x=plain x:=by rw [iH,Wo,Nq]
def Bx(s:ByteArray):Bool:=decide (1<=s.size/\s.size<=16) && Te plain s
def dO(s:ByteArray):Bool:=Bx s && decide (97<=kR s 0)
theorem Vi(s:ByteArray):(s=⟨#[]⟩)↔s.size=0:=by
 constructor
 .rintro rfl;rfl
 intro h;cases s with
 | mk d=>
  have:d.size=0:=h;have:d=#[]:=by simpa using this
  rw [this]
theorem aOn(s:ByteArray)(p:Int->Bool)(f:FuncId)(σ:List (List D))(hs:s.size<=9223372036854775807)(hp:∀x τ,Ct prog f [.v (.int .u8 x)] τ (fun r τ'=>r= .bool (p x)/\τ'=τ)):Ct prog 253 [D.str s,.clo (.func f) [] []] σ (fun r σ'=>r= .bool (Te p s)/\σ'=σ):=by
 refine zf func253 ?_;refine bC fun _ _ Z=>?_;simp;apply Z;apply aE;refine bC fun _ _ Z=>?_;simp;and_intros<;>(try omega);apply Z;apply aR;refine zk [0,1,4,7,8] ?_;refine aY (fun(k:Nat)=> [(8,.d (.v (.int .i64 (k:Int)))),(5,.d (.any))]) [4,5,8,9,10,11,12,13,14,15,16,17] (fun(k:Nat)=>k<=s.size/\∀j,j<k->p (kR s j)=true) (fun(k:Nat)=>s.size - k) (0) (by simp <;> rfl) ?_ ?_ ?_
 .simp
 .simp
 rintro k ⟨hk,hh⟩;simp only [aQ,aP];refine bC fun _ _ Z=>?_;simp;apply Z;apply aE;refine zI ?_ ?_<;>intro c1<;>try simp at c1
 .apply kO;refine bC fun _ _ Z=>?_;simp;apply Z;refine bC fun _ _ Z=>?_;refine zs 4 fun _ Y=>?_;simp;and_intros<;>(try omega);apply Y;refine aF fun _ Y=>?_;simp;refine cN (hp (kR s k) _) ?_;apply Y;simp;apply Z;refine zI ?_ ?_<;>intro c2<;>try simp at c2
  .refine zk [0,1,5,7,8] ?_;refine bC fun _ _ Z=>?_;simp;apply Z;apply aC;simp [aG];exact aIj (k:=k) (by simpa [kR] using c2) (by omega)
  apply nM;refine zk [0,1,5,7,8] ?_;refine qF fun _ _ Z=>?_;simp;and_intros<;>(try omega);apply Z;refine zq (k+1) ?_ ?_ ?_
  .exact⟨by omega,Iy hh (by simpa [kR] using c2)⟩
  .try dsimp only
   omega
  simp
 apply zE;refine bC fun _ _ Z=>?_;simp;apply Z;apply aC;simp [aG];exact aH8 hh (by omega)
theorem aNw(s:ByteArray)(σ:List (List D))(hs:s.size<=9223372036854775807):Ct prog 227 [D.str s] σ (fun r σ'=>r= .bool (Bx s)/\σ'=σ):=by
 refine zf func227 ?_;refine bC fun _ _ Z=>?_;simp;apply Z;refine mE ⟨[],[],[],[],[]⟩ fun all hall _ Z=>?_;have ga2:aO all 2=some 5:=hall 2;have ga7:aO all 7=some 10:=hall 7;refine zs 3 fun _ Y=>?_;simp[ga2,ga7];apply Y;refine zb 5 ?_ ?_<;>intro g1<;>try simp at g1
 .refine zs 5 fun _ Y=>?_;simp[ga2,ga7];and_intros<;>(try omega);apply Y;refine zb 10 ?_ ?_<;>intro g2<;>try simp at g2
  .refine zs 1 fun _ Y=>?_;simp[ga2,ga7];apply Y;refine zg ga7 fun _ Y=>?_;simp[ga2,ga7];refine cN (aOn s plain 254 _ hs (fun x τ=>aG7 x τ)) ?_;apply Y;simp[ga2,ga7];apply Z;apply aC;simp [aG,Bx];rw [Vi] at g1
   intros;omega
  simp[ga2,ga7];apply Z;apply aC;simp [aG,Bx]
  intros;omega
 refine zs 5 fun _ Y=>?_;simp[ga2,ga7];apply Y;simp[ga2,ga7];apply Z;apply aC;simp [aG,Bx];rw [Vi] at g1
 intros;omega
theorem Jh (h:Bx s=true):0<s.size/\s.size<=16:=by
 unfold Bx at h;simp at h;omega
theorem Yh (h:Bx s=true):kZ (kR s 0)=decide (97<=kR s 0):=by
 have hp:=(Jh h).1;unfold Bx at h;rw [gD] at h;have:=aSc h.2 0 hp;rw [Nq] at this;rw [iH,Zq,eZ];omega
theorem uD(s:ByteArray)(σ:List (List D))(hs:s.size<=9223372036854775807):Ct prog 193 [D.str s] σ (fun r σ'=>r= .bool (dO s)/\σ'=σ):=by
 refine zf func193 ?_;refine bC fun _ _ Z=>?_;simp;apply Z;refine mE ⟨[],[],[],[],[]⟩ fun all hall _ Z=>?_;have ga2:aO all 2=some 5:=hall 2;refine zs 1 fun _ Y=>?_;simp[ga2];apply Y;refine aF fun _ Y=>?_;simp[ga2];refine cN (aNw s _ hs) ?_;apply Y;refine zs 1 fun _ Y=>?_;simp[ga2];apply Y;refine zb 5 ?_ ?_<;>intro g1<;>try simp at g1
 .have hpos:=Jh g1;refine zs 2 fun _ Y=>?_;simp[ga2];and_intros<;>(try omega);apply Y;refine zg ga2 fun _ Y=>?_;simp[ga2];refine cN (Ow (kR s 0) _) ?_;apply Y;simp[ga2];apply Z;apply aC;simp [aG,dO,g1,Yh g1]
 simp[ga2];apply Z;apply aC;simp [aG,dO,g1]
theorem aA7(s:ByteArray)(σ:List (List D))(hs:s.size<=9223372036854775807):Ct prog 162 [D.str s] σ (fun r σ'=>r= .bool (Bx s)/\σ'=σ):=by
 refine zf func162 ?_;refine bC fun _ _ Z=>?_;simp;apply Z;apply aE;refine bC fun _ _ Z=>?_;simp;apply Z;apply aR;refine zk [0,2,3] ?_;refine aY (fun(k:Nat)=> [(3,.d (.v (.int .i64 (k:Int))))]) [2,3,4,5,6,7,8,9,10,11,12,13,14] (fun(k:Nat)=>k<=s.size/\∀j,j<k->plain (kR s j)=true) (fun(k:Nat)=>s.size - k) (0) (by simp <;> rfl) ?_ ?_ ?_
 .simp
 .simp
 rintro k ⟨hk,hh⟩;simp only [aQ,aP];apply aE;refine bC fun _ _ Z=>?_;simp;and_intros<;>(try omega);apply Z;refine zI ?_ ?_<;>intro c1<;>try simp at c1
 .apply kO;refine bC fun _ _ Z=>?_;refine zs 3 fun _ Y=>?_;simp;and_intros<;>(try omega);apply Y;refine aF fun _ Y=>?_;simp;refine cN (aC8 (kR s k) _) ?_;apply Y;simp;apply Z;refine zI ?_ ?_<;>intro c2<;>try simp at c2
  .refine bC fun _ _ Z=>?_;simp;apply Z;apply aC;simp [aG,Bx];intro _ _;exact aIj (k:=k) (by rw [<- Om];simpa [kR] using c2) (by omega)
  apply nM;refine qF fun _ _ Z=>?_;simp;and_intros<;>(try omega);apply Z;refine zq (k+1) ?_ ?_ ?_
  .exact⟨by omega,Iy hh (by rw [<- Om];simpa [kR] using c2)⟩
  .try dsimp only
   omega
  simp
 apply zE;refine mE ⟨[],[],[],[],[]⟩ fun all hall _ Z=>?_;have ga3:aO all 3=some 18:=hall 3;refine zs 4 fun _ Y=>?_;simp[ga3];and_intros<;>(try omega);apply Y;refine zb 18 ?_ ?_<;>intro g3<;>try simp at g3
 .simp[ga3];and_intros<;>(try omega);apply Z;apply aC;simp [aG,Bx];have:=aH8 (p:=plain) (s:=s) hh (by omega);simp [this];rw [iH];simp;omega
 simp[ga3];apply Z;apply aC;simp [aG,Bx]
 intros;omega
theorem wD(s:ByteArray)(σ:List (List D))(hs:s.size<=9223372036854775807):Ct prog 71 [D.str s] σ (fun r σ'=>r= .bool (dO s)/\σ'=σ):=by
 refine zf func71 ?_;refine bC fun _ _ Z=>?_;simp;apply Z;refine mE ⟨[],[],[],[],[]⟩ fun all hall _ Z=>?_;have ga2:aO all 2=some 5:=hall 2;refine zs 1 fun _ Y=>?_;simp[ga2];apply Y;refine aF fun _ Y=>?_;simp[ga2];refine cN (aA7 s _ hs) ?_;apply Y;refine zs 1 fun _ Y=>?_;simp[ga2];apply Y;refine zb 5 ?_ ?_<;>intro g1<;>try simp at g1
 .have hpos:=Jh g1;simp[ga2];and_intros<;>(try omega);apply Z;apply aC;simp [aG,dO,g1,kR];rfl
 simp[ga2];apply Z;apply aC;simp [aG,dO,g1]
def tH(n:Nat)(s:ByteArray):ByteArray:=if n<s.size then s.extract 0 n else s
theorem sL(n:Nat)(s:ByteArray):(tH n s).size<=n:=by
 unfold tH;split
 .simp;omega
 omega
theorem An(s:ByteArray)(n:Nat)(σ:List (List D))(hn:n<=1000000):Ct prog 20 [D.str s,D.int n] σ (fun r σ'=>r= .v (.string (tH n s))/\σ'=σ):=by
 refine zf func20 ?_;refine bC fun _ _ Z=>?_;simp;apply Z;apply aE;refine bC fun _ _ Z=>?_;simp;and_intros<;>(try omega);apply Z;refine zI ?_ ?_<;>intro c1<;>try simp at c1
 .refine bC fun _ _ Z=>?_;simp;and_intros<;>(try omega);apply Z;apply aC;simp [aG,tH,c1]
 apply zA;refine bC fun _ _ Z=>?_;simp;apply Z;apply aC;simp [aG,tH];intro h;omega
abbrev Ls:=List ByteArray
@[simp] abbrev dl(l:Ls):D:= .sl false (l.map D.str)
@[simp] abbrev dlo(l:Ls):D:= .sl true (l.map D.str)
def has(c:ByteArray)(l:Ls):Bool:=l.any fun x=>decide (x=c)
theorem Cx(c x:ByteArray)(l:Ls):has c (l++ [x])=(has c l || decide (x=c)):=by simp [has]
theorem Jz {l:Ls} (h:k<l.length)(e:l[k]=c):has c l=true:=by
 simp only [has,oI,eZ];exact⟨l[k],cB h,e⟩
def sP(l:Ls)(c:ByteArray):Ls:=if has c l then l else l++ [c]
theorem aIo(l:Ls)(c:ByteArray):(sP l c).length<=l.length+1:=by
 unfold sP;split <;> simp
def Wi(c:ByteArray)(l:Ls):Int:=match l.findIdx? (fun x=>decide (x=c))with | some k=>k | none=> -1
theorem aPs {l:Ls} (h:k<l.length)(hh:has c (l.take k)=false)(e:c=l[k]):Wi c l=k:=by
 have:l.findIdx? (fun x=>decide (x=c))=some k:=by
  rw [pQ];refine⟨h,by simp [e],fun j hj=>?_⟩;simp only [has,qE,eZ] at hh;have:=hh ((l.take k)[j]'(by simp;omega)) (cB _);simpa using this
 simp [Wi,this]
theorem aB0 {l:Ls} (h:has c l=false):Wi c l= -1:=by
 have:l.findIdx? (fun x=>decide (x=c))=none:=by
  rw [pK];simpa [has] using h
 simp [Wi,this]
theorem aJg(c:ByteArray)(l:Ls):(0<=Wi c l)↔has c l=true:=by
 unfold Wi;split
 .rename_i k h;rw [pQ] at h;obtain⟨hk,he,_⟩:=h;simp only [eZ] at he;simp [Jz hk he]
 rename_i h;rw [pK] at h;simp [has];intro e;have:=h c e;simp at this
def kG(l:Ls)(c:ByteArray):Ls:=l.filter fun x=> !decide (x=c)
theorem vG(l:Ls)(x c:ByteArray):kG (l++ [x]) c=kG l c++if x=c then [] else [x]:=by
 simp [kG,fS,gN]
theorem Jr(l:Ls)(c:ByteArray)(k:Nat)(h:k<l.length):kG (l.take (k+1)) c=kG (l.take k) c++if l[k]=c then [] else [l[k]]:=by rw [bR l k h,vG]
theorem Nd(l:Ls)(c:ByteArray):(kG l c).length<=l.length:=kB _ _
theorem aBt(l:Ls)(c:ByteArray)(σ:List (List D))(hl:l.length<=9223372036854775807):Ct prog 77 [dl l,D.str c] σ (fun r σ'=>r= .bool (has c l)/\σ'=σ):=by
 refine zf func77 ?_;refine bC fun _ _ Z=>?_;simp(disch:=omega);apply Z;apply aE;refine bC fun _ _ Z=>?_;simp(disch:=omega);and_intros<;>(try omega);apply Z;apply aR;refine zk [1,4,7,8,9] ?_;refine aY (fun(k:Nat)=> [(9,.d (.int k))]) [4,6,9,10,11,12,13,14,15,16] (fun(k:Nat)=>k<=l.length/\has c (l.take k)=false) (fun(k:Nat)=>l.length - k) (0) (by simp <;> rfl) ?_ ?_ ?_
 .simp
 .simp [has]
 rintro k ⟨hk,hh⟩;simp only [aQ,aP];refine bC fun _ _ Z=>?_;simp(disch:=omega);apply Z;apply aE;refine zI ?_ ?_<;>intro c1<;>try simp at c1
 .apply kO;refine bC fun _ _ Z=>?_;simp(disch:=omega);and_intros<;>(try omega);apply Z;refine bC fun _ _ Z=>?_;simp(disch:=omega);apply Z;refine zI ?_ ?_<;>intro c2<;>try simp at c2
  .refine bC fun _ _ Z=>?_;simp(disch:=omega);apply Z;apply aC;simp [aG];exact Jz c1 c2
  apply nM;refine qF fun _ _ Z=>?_;simp(disch:=omega);and_intros<;>(try omega);apply Z;refine zq (k+1) ?_ ?_ ?_
  .exact⟨by omega,by rw [bR l k (by omega),Cx,hh];simp [*]⟩
  .try dsimp only
   omega
  simp(disch:=omega)
 apply zE;refine bC fun _ _ Z=>?_;simp(disch:=omega);apply Z;apply aC;simp [aG];rw [bV (by omega)] at hh;exact hh
@[simp] abbrev q27_1:Cfg:=⟨[4,5,18,23],[],[],[],[]⟩
theorem aJu(l:Ls)(c:ByteArray)(σ:List (List D))(hl:l.length<=1000000):Ct prog 78 [dl l,D.str c] σ (fun r σ'=>r=dlo (kG l c)/\σ'=σ):=by
 refine zf func78 ?_;refine zr q27_1 fun _ _ Z=>?_;simp(disch:=omega);apply Z;refine zr q27_1 fun _ _ Z=>?_;simp(disch:=omega);and_intros<;>(try omega);apply Z;apply aE;refine zr q27_1 fun _ _ Z=>?_;simp(disch:=omega);and_intros<;>(try omega);apply Z;apply aR;refine zk [1,4,5,9,10,11] ?_;refine aY (fun(k:Nat)=> [(11,.d (.int k)),(5,.d (dlo (kG (l.take k) c)))]) [5,7,11,12,13,14,15,16,17,18,19,20,21,22] (fun(k:Nat)=>k<=l.length) (fun(k:Nat)=>l.length - k) (0) (by simp <;> rfl) ?_ ?_ ?_
 .simp [kG]
 .simp
 rintro k hk;simp only [aQ,aP];have hcl:=Nd (l.take k) c;simp only [bF] at hcl;refine zr q27_1 fun _ _ Z=>?_;simp(disch:=omega);apply Z;apply aE;refine zI ?_ ?_<;>intro c1<;>try simp at c1
 .apply kO;refine zr q27_1 fun _ _ Z=>?_;simp(disch:=omega);and_intros<;>(try omega);apply Z;refine zr q27_1 fun _ _ Z=>?_;simp(disch:=omega);apply Z;refine zI ?_ ?_<;>intro c2<;>try simp at c2
  .refine zk [1,4,5,7,9,10,11] ?_;refine zt q27_1 fun _ _ Z=>?_;simp(disch:=omega);and_intros<;>(try omega);apply Z;apply zB;refine zk [1,4,5,9,10,11] ?_;refine zt q27_1 fun _ _ Z=>?_;simp(disch:=omega);and_intros<;>(try omega);apply Z;refine zq (k+1) ?_ ?_ ?_
   .omega
   .try dsimp only
    omega
   simp(disch:=omega)[Jr,c2]
  apply nM;refine zk [1,4,5,9,10,11] ?_;refine zt q27_1 fun _ _ Z=>?_;simp(disch:=omega);and_intros<;>(try omega);apply Z;refine zq (k+1) ?_ ?_ ?_
  .omega
  .try dsimp only
   omega
  simp(disch:=omega)[Jr,c2]
 apply zE;refine zr q27_1 fun _ _ Z=>?_;simp(disch:=omega);apply Z;apply aC;simp [aG];rw [bV (by omega)]
theorem aLc(l:Ls)(c:ByteArray)(σ:List (List D))(hl:l.length<=9223372036854775807):Ct prog 255 [dl l,D.str c] σ (fun r σ'=>r= .int (Wi c l)/\σ'=σ):=by
 refine zf func255 ?_;refine bC fun _ _ Z=>?_;simp(disch:=omega);apply Z;apply aE;refine bC fun _ _ Z=>?_;simp(disch:=omega);and_intros<;>(try omega);apply Z;apply aR;refine zk [0,1,4,7,8] ?_;refine aY (fun(k:Nat)=> [(8,.d (.int k))]) [4,5,8,9,10,11,12,13,14,15,16,17,18] (fun(k:Nat)=>k<=l.length/\has c (l.take k)=false) (fun(k:Nat)=>l.length - k) (0) (by simp <;> rfl) ?_ ?_ ?_
 .simp
 .simp [has]
 rintro k ⟨hk,hh⟩;simp only [aQ,aP];refine bC fun _ _ Z=>?_;simp(disch:=omega);apply Z;apply aE;refine zI ?_ ?_<;>intro c1<;>try simp at c1
 .apply kO;refine bC fun _ _ Z=>?_;simp(disch:=omega);apply Z;refine bC fun _ _ Z=>?_;simp(disch:=omega);and_intros<;>(try omega);apply Z;refine zI ?_ ?_<;>intro c2<;>try simp at c2
  .refine zk [0,1,5,7,8] ?_;refine bC fun _ _ Z=>?_;simp(disch:=omega);apply Z;apply aC;simp [aG];exact(aPs c1 hh c2).symm
  apply nM;refine zk [0,1,7,8] ?_;refine qF fun _ _ Z=>?_;simp(disch:=omega);and_intros<;>(try omega);apply Z;refine zq (k+1) ?_ ?_ ?_
  .exact⟨by omega,by rw [bR l k (by omega),Cx,hh];simp;exact fun e=>c2 e.symm⟩
  .try dsimp only
   omega
  simp(disch:=omega)
 apply zE;refine bC fun _ _ Z=>?_;simp(disch:=omega);apply Z;apply aC;simp [aG];rw [bV (by omega)] at hh;exact(aB0 hh).symm
theorem Va(l:Ls)(c:ByteArray)(σ:List (List D))(hl:l.length<=9223372036854775807):Ct prog 229 [dl l,D.str c] σ (fun r σ'=>r= .bool (has c l)/\σ'=σ):=by
 refine zf func229 ?_;refine bC fun _ _ Z=>?_;simp;apply Z;refine bC fun _ _ Z=>?_;refine zs 2 fun _ Y=>?_;simp;apply Y;refine aF fun _ Y=>?_;simp;refine cN (aLc _ _ _ hl) ?_;apply Y;simp;apply Z;apply aC;simp [aG,aJg]
theorem yU(l:Ls)(c:ByteArray)(σ:List (List D))(hl:l.length<=9223372036854775807):Ct prog 195 [dl l,D.str c] σ (fun r σ'=>r= .bool (has c l)/\σ'=σ):=by
 refine zf func195 ?_;refine bC fun _ _ Z=>?_;simp;apply Z;refine bC fun _ _ Z=>?_;refine zs 2 fun _ Y=>?_;simp;apply Y;refine aF fun _ Y=>?_;simp;refine cN (Va _ _ _ hl) ?_;apply Y;simp;apply Z;apply aC;simp[aG]
theorem Kg(l:Ls)(σ:List (List D))(hl:l.length<=1000000):Ct prog 152 [dl l] σ (fun r σ'=>r=dlo l/\σ'=σ):=by
 refine zf func152 ?_;refine zr ⟨[2],[],[],[],[]⟩ fun _ _ Z=>?_;simp;apply Z;apply aE;refine zr ⟨[2],[],[],[],[]⟩ fun _ _ Z=>?_;refine zs 1 fun _ Y=>?_;simp;apply Y;refine aF fun _ Y=>?_;simp;refine⟨Y _ ?_,fun e1=>Y _ ?_⟩
 .simp only [dT];apply Z;refine aZ (t:=false) (by simp) (fun h=>by cases h) (fun _=>?_);apply zA;refine zr ⟨[2],[],[],[],[]⟩ fun _ _ Z=>?_;simp;and_intros<;>(try omega);apply Z;apply aC;simp [aG]
 simp only [dT];apply Z;refine aZ (t:=true) (by simp) (fun _=>?_) (fun h=>by cases h);refine zr ⟨[2],[],[],[],[]⟩ fun _ _ Z=>?_;simp;apply Z;apply aC;simp [aG,e1]
@[simp] abbrev q27_2:Cfg:=⟨[4,5,12,16],[],[],[],[]⟩
theorem aMf(l:Ls)(c:ByteArray)(σ:List (List D))(hl:l.length<=1000000):Ct prog 186 [dl l,D.str c] σ (fun r σ'=>r=dlo (sP l c)/\σ'=σ):=by
 refine zf func186 ?_;refine zr q27_2 fun _ _ Z=>?_;simp;apply Z;refine zr q27_2 fun _ _ Z=>?_;refine zs 1 fun _ Y=>?_;simp;apply Y;refine aF fun _ Y=>?_;simp;refine cN (Kg _ _ hl) ?_;apply Y;simp;apply Z;apply aE;refine zr q27_2 fun _ _ Z=>?_;refine zs 2 fun _ Y=>?_;simp;apply Y;refine aF fun _ Y=>?_;simp;refine cN (yU l _ _ (by omega)) ?_;apply Y;simp;apply Z;refine zI ?_ ?_<;>intro c1<;>try simp at c1
 .refine zt q27_2 fun _ _ Z=>?_;simp;and_intros<;>(try omega);apply Z;apply dV;refine zk [4,5] ?_;refine zr q27_2 fun _ _ Z=>?_;simp;apply Z;apply aC;simp [aG,sP,c1]
 apply zA;refine zr q27_2 fun _ _ Z=>?_;simp;apply Z;apply aC;simp [aG,sP,c1]
theorem Ln(l:Ls)(p:ByteArray->Bool)(f:FuncId)(caps:List D)(m cap:Nat)(rest:List D)(σ:List (List D))(hl:l.length<=9223372036854775807)(hσ:σ[m]?=some (l.map D.str++rest))(hcp:∀d∈caps,d.plain=true)(hcs:caps.map D.strip=caps)(hp:∀x τ,Ct prog f (D.str x::caps) τ (fun r τ'=>r= .bool (p x)/\τ'=τ)):Ct prog 226 [.slo m 0 l.length cap,.clo (.func f) [] caps] σ (fun r σ'=>r= .int (vR p l)/\σ'=σ):=by
 refine zf func226 ?_;refine zr ⟨[],[],[],[7,14],[]⟩ fun _ _ Z=>?_;simp(disch:=omega)[hσ,hcs,fH];apply Z;apply aE;refine zr ⟨[],[],[],[7,14],[]⟩ fun _ _ Z=>?_;simp(disch:=omega)[hσ,hcs,fH];and_intros<;>(try omega);apply Z;apply aR;refine zk [0,1,4,7,8] ?_;refine aY (fun(k:Nat)=> [(8,.d (.v (.int .i64 (k:Int))))]) [4,5,8,9,10,11,12,13,14,15,16,17,18] (fun(k:Nat)=>k<=l.length/\∀x∈l.take k,p x=false) (fun(k:Nat)=>l.length - k) (0) (by simp <;> rfl) ?_ ?_ ?_
 .simp
 .simp
 rintro k ⟨hk,hh⟩;simp only [aQ,aP];refine zr ⟨[],[],[],[7,14],[]⟩ fun _ _ Z=>?_;simp(disch:=omega)[hσ,hcs,fH];apply Z;apply aE;refine zI ?_ ?_<;>intro c1<;>try simp at c1
 .apply kO;refine zr ⟨[],[],[],[7,14],[]⟩ fun _ _ Z=>?_;simp(disch:=omega)[hσ,hcs,fH];apply Z;refine zr ⟨[],[],[],[7,14],[]⟩ fun _ _ Z=>?_;refine zs 5 fun _ Y=>?_;simp(disch:=omega)[hσ,hcs,fH];and_intros<;>(try omega);apply Y;refine aF fun _ Y=>?_;simp(disch:=omega)[hσ,hcs,fH];refine⟨hcp,?_⟩;refine cN (hp l[k] _) ?_;apply Y;simp only [dT];apply Z;refine zI ?_ ?_<;>intro c2<;>try simp at c2
  .refine zk [0,1,5,7,8] ?_;refine zr ⟨[],[],[],[7,14],[]⟩ fun _ _ Z=>?_;simp(disch:=omega)[hσ,hcs,fH];apply Z;apply aC;simp [aG];exact(Hj c1 hh c2).symm
  apply nM;refine zk [0,1,7,8] ?_;refine zt ⟨[],[],[],[7,14],[]⟩ fun _ _ Z=>?_;simp(disch:=omega)[hσ,hcs,fH];and_intros<;>(try omega);apply Z;refine zq (k+1) ?_ ?_ ?_
  .exact⟨by omega,tT (by omega) hh c2⟩
  .try dsimp only
   omega
  simp(disch:=omega)[hσ,hcs,fH]
 apply zE;refine zr ⟨[],[],[],[7,14],[]⟩ fun _ _ Z=>?_;simp(disch:=omega)[hσ,hcs,fH];apply Z;apply aC;simp [aG];rw [bV (by omega)] at hh;exact(xV hh).symm
theorem Lk(f:FuncId)(caps:List D)(σ:List (List D))(hcp:∀d∈caps,d.plain=true):Ct prog 226 [.xl 0,.clo (.func f) [] caps] σ (fun r σ'=>r= .int (-1)/\σ'=σ):=by
 refine zf func226 ?_;refine zr ⟨[],[],[],[7],[]⟩ fun _ _ Z=>?_;simp;apply Z;apply aE;refine zr ⟨[],[],[],[7],[]⟩ fun _ _ Z=>?_;simp;and_intros<;>(try omega);apply Z;apply aR;refine zk [0,1,4,7,8] ?_;refine aY (fun(k:Nat)=> [(8,.d (.int 0))]) [4,5,8,9,10,11,12,13,14,15,16,17,18] (fun(k:Nat)=>k=0) (fun(k:Nat)=>0) (0) (by simp <;> rfl) ?_ ?_ ?_
 .simp
 .rfl
 rintro k hk;simp only [aQ,aP];refine zr ⟨[],[],[],[7],[]⟩ fun _ _ Z=>?_;simp;apply Z;apply aE;refine zI ?_ ?_<;>intro c1<;>try simp at c1
 apply zE;refine zr ⟨[],[],[],[7],[]⟩ fun _ _ Z=>?_;simp;apply Z;apply aC;simp [aG]
theorem Sj(p:ByteArray->Bool)(l k:Ls)(rest:List D):List.take k.length ((k++l).map D.str++rest)=k.map D.str:=by
 rw [cO,bU,Oo (by simp)];rw [bV (by simp)]
@[simp] abbrev q27_3:Cfg:=⟨[4,13],[],[],[18,24,33,38,41],[]⟩
theorem Jl(l:Ls)(p:ByteArray->Bool)(f:FuncId)(caps:List D)(σ:List (List D))(hl:l.length<=1000000)(hne:l≠ [])(hcp:∀d∈caps,d.plain=true)(hcs:caps.map D.strip=caps)(hp:∀x τ,Ct prog f (D.str x::caps) τ (fun r τ'=>r= .bool (p x)/\τ'=τ)):Ct prog 268 [.xs 1 (l.map D.str),.clo (.func f) [] caps] σ (fun r σ'=>r= .xs 1 ((l.filter fun x=> !p x).map D.str)/\σ'=σ++ [[]]):=by
 refine zf func268 ?_;refine rT 0 1 rfl (by decide) fun cap rest hcap hcm hrest hk0 hes=>?_;simp only [bQ] at hcap hrest |-;rw [tW (f:=D.str) (fun _=>rfl)];refine zr q27_3 fun _ _ Z=>?_;simp(disch:=first|omega|assumption)[hcs,fH,iM];apply Z;refine zr q27_3 fun _ _ Z=>?_;refine zs 2 fun _ Y=>?_;simp(disch:=first|omega|assumption)[hcs,fH,iM];apply Y;refine aF fun _ Y=>?_;simp(disch:=first|omega|assumption)[hcs,fH,iM];refine cN (Ln l p f caps σ.length cap rest _ (by omega) (by simp) hcp hcs hp) ?_;apply Y;simp(disch:=first|omega|assumption)[hcs,fH,iM];apply Z;apply aE;refine zr q27_3 fun _ _ Z=>?_;simp(disch:=first|omega|assumption)[hcs,fH,iM];apply Z;refine zI ?_ ?_<;>intro c1<;>try simp at c1
 .refine zr q27_3 fun _ _ Z=>?_;simp(disch:=first|omega|assumption)[hcs,fH,iM];apply Z;refine fL 4 1 σ.length l.length cap (l.map D.str) (l.map D.str++rest) (by simp <;> rfl) (by simp) (by omega) (by simp [hrest];omega) (by simp) (by simp) (by rw [tW (fun _=>rfl)];exact dL _ _) ?_;simp only [sF];apply aC;simp [aG];rcases zZ p l with ⟨_,h⟩ | ⟨k,h,_⟩
  .rw [h]
  omega
 obtain⟨k0,e0,e1,e2,e3⟩:=Jf c1;rw [e0];apply zA;apply aE;refine zr q27_3 fun _ _ Z=>?_;simp(disch:=first|omega|assumption)[hcs,fH,iM];and_intros<;>try first|omega|exact rfl
 apply Z;apply aR;refine zk [0,1,4,5,6] ?_;refine oB (fun(j:Nat)=> [(5,.d (.v (.int .i64 ((kp p l j).length:Int)))),(6,.d (.v (.int .i64 (j:Int))))]) (fun(j:Nat)=> []) (fun(j:Nat)=> [(σ.length,(ar p l j).map D.str++rest)]) [5,6,7,16,17,18,19,20,21,22,23,24,25,26,27,28,29,30,31,32,33,34,35] (fun(j:Nat)=>j<=l.length) (fun(j:Nat)=>l.length - j) (k0+1) (by simp <;> rfl) ?_ (by simp) (by simp [e1]) ?_ ?_
 .simp [e1,e2]
 .omega
 rintro j hj;simp only [aQ,aP,oU,mT,jE,iR];have hkl:=Uu p l j hj;have hal:=Rj p l j;apply aE;refine zr q27_3 fun _ _ Z=>?_;simp(disch:=first|omega|assumption)[hcs,fH,iM];and_intros<;>try first|omega|exact rfl
 apply Z;refine zI ?_ ?_<;>intro c2<;>try simp at c2
 .apply kO;refine zr q27_3 fun _ _ Z=>?_;simp(disch:=first|omega|assumption)[hcs,fH,iM];and_intros<;>try first|omega|exact rfl
  apply Z;refine zk [0,1,4,5,6,7] ?_;refine zr q27_3 fun _ _ Z=>?_;refine zs 2 fun _ Y=>?_;simp(disch:=first|omega|assumption)[hcs,fH,iM];apply Y;refine aF fun _ Y=>?_;simp(disch:=first|omega|assumption)[hcs,fH,iM];simp only [aHo p l j (by omega)];refine⟨hcp,?_⟩;refine cN (hp l[j] _) ?_;apply Y;simp(disch:=first|omega|assumption)[hcs,fH,iM];apply Z;refine zI ?_ ?_<;>intro c3<;>try simp at c3
  .refine zr q27_3 fun _ _ Z=>?_;simp(disch:=first|omega|assumption)[hcs,fH,iM];and_intros<;>try first|omega|exact rfl
   apply Z;refine zk [0,1,4,5,6] ?_;refine zt q27_3 fun _ _ Z=>?_;simp(disch:=first|omega|assumption)[hcs,fH,iM];and_intros<;>try first|omega|exact rfl
   apply Z;apply zB;refine zt q27_3 fun _ _ Z=>?_;simp(disch:=first|omega|assumption)[hcs,fH,iM];and_intros<;>try first|omega|exact rfl
   apply Z;refine fP (j+1) ?_ ?_ (eG rfl ?_ (by simp) (by rw [<- (Gr p l j (by omega) c3).1];simp(disch:=omega) [aGf,hal]))
   .omega
   .try dsimp only
    omega
   simp(disch:=first|omega|assumption)[hcs,fH,iM,(Gr p l j (by omega) c3).2]
  apply nM;refine zt q27_3 fun _ _ Z=>?_;simp(disch:=first|omega|assumption)[hcs,fH,iM];and_intros<;>try first|omega|exact rfl
  apply Z;refine fP (j+1) ?_ ?_ (eG rfl ?_ (by simp) (by simp [(zQ p l j (by omega) c3).1]))
  .omega
  .try dsimp only
   omega
  simp(disch:=first|omega|assumption)[hcs,fH,iM,(zQ p l j (by omega) c3).2]
 apply zE;refine zr q27_3 fun _ _ Z=>?_;simp(disch:=first|omega|assumption)[hcs,fH,iM];and_intros<;>try first|omega|exact rfl
 apply Z;refine zk [0,4,5] ?_;refine zr q27_3 fun _ _ Z=>?_;simp(disch:=first|omega|assumption)[hcs,fH,iM];and_intros<;>try first|omega|exact rfl
 apply Z;refine fL 4 1 σ.length (kp p l j).length cap ((kp p l j).map D.str) ((kp p l j).map D.str++(iY #[.string ⟨#[]⟩] (l.length - (kp p l j).length)++rest)) (by simp <;> rfl) (by rw [show List.map D.str (kp p l j)=List.take (kp p l j).length (List.map D.str (ar p l j)++rest)from(Sj p _ _ rest).symm];simp [jL (z:=#[.string ⟨#[]⟩]) (k:=1) rfl,show(kp p l j).length+(l.length - (kp p l j).length)=l.length by omega,aL9 D.str (ar p l j) rest l.length hal.symm]) (by omega) (by simp [hrest,jL (z:=#[.string ⟨#[]⟩]) (k:=1) rfl];omega) (by simp) (by simp) (by rw [tW (fun _=>rfl)];exact dL _ _) ?_;simp only [sF];apply aC;simp [aG];unfold kp;rw [bV (by omega)]
theorem Ij(f:FuncId)(caps:List D)(σ:List (List D))(hcp:∀d∈caps,d.plain=true):Ct prog 268 [.xs 1 [],.clo (.func f) [] caps] σ (fun r σ'=>r= .xs 1 []/\σ'=σ):=by
 refine zf func268 ?_;refine zr ⟨[4,13],[],[],[],[]⟩ fun _ _ Z=>?_;simp;apply Z;refine zr ⟨[4,13],[],[],[],[]⟩ fun _ _ Z=>?_;refine zs 2 fun _ Y=>?_;simp;apply Y;refine aF fun _ Y=>?_;simp;refine cN (Lk f caps _ hcp) ?_;apply Y;simp;apply Z;apply aE;refine zr ⟨[4,13],[],[],[],[]⟩ fun _ _ Z=>?_;simp;apply Z;refine zI ?_ ?_<;>intro c1<;>try simp at c1
 refine zr ⟨[4,13],[],[],[],[]⟩ fun _ _ Z=>?_;simp;apply Z;apply aC;simp[aG]
theorem aNb(N:Nat)(l:Ls):Sc N (.xs 1 (l.map D.str)):=Sc.xs fun d hd e he=>by
 obtain⟨a,_,rfl⟩:=aW.1 hd;simp [D.cells] at he;subst he;exact Sc.v _
theorem Lg(l:Ls)(p:ByteArray->Bool)(f:FuncId)(caps:List D)(σ:List (List D))(hl:l.length<=1000000)(hcp:∀d∈caps,d.plain=true)(hcs:caps.map D.strip=caps)(hp:∀x τ,Ct prog f (D.str x::caps) τ (fun r τ'=>r= .bool (p x)/\τ'=τ)):
  Ct prog 268 [.xs 1 (l.map D.str),.clo (.func f) [] caps] σ (fun r σ'=>r= .xs 1 ((l.filter fun x=> !p x).map D.str)/\σ'=σ):=by
 by_cases hne:l= []
 .subst hne;exact Ij f caps σ hcp
 exact(Jl l p f caps σ hl hne hcp hcs hp).trim fun r σ' ⟨hr,hs⟩=>⟨σ, [[]],hs,rfl,by rw [hr];exact aNb _ _,fun n cs h=> .inl h,hr,rfl⟩
theorem Yo(l:Ls)(σ:List (List D))(hl:l.length<=1000000):Ct prog 152 [dl l] σ (fun r σ'=>vK 1 (l.map D.str) r/\σ'=σ):=by
 refine zf func152 ?_;refine zr ⟨[2],[],[],[7],[]⟩ fun _ _ Z=>?_;simp(disch:=first|omega|assumption);apply Z;apply aE;refine zr ⟨[2],[],[],[7],[]⟩ fun _ _ Z=>?_;refine zs 1 fun _ Y=>?_;simp(disch:=first|omega|assumption);apply Y;refine aF fun _ Y=>?_;simp(disch:=first|omega|assumption);refine⟨Y _ ?_,fun e1=>Y _ ?_⟩
 .simp only [dT];apply Z;refine aZ (t:=false) (by simp) (fun h=>by cases h) (fun _=>?_);apply zA;refine zr ⟨[2],[],[],[7],[]⟩ fun _ _ Z=>?_;simp(disch:=first|omega|assumption);and_intros<;>try first|omega|exact rfl
  apply Z;apply aC;simp [aG,vK]
 simp only [dT];apply Z;refine aZ (t:=true) (by simp) (fun _=>?_) (fun h=>by cases h);refine zr ⟨[2],[],[],[7],[]⟩ fun _ _ Z=>?_;simp(disch:=first|omega|assumption);apply Z;apply aC;simp [aG,vK,e1]
theorem aCf(l:Ls)(σ:List (List D))(hl:l.length<=1000000):Ct prog 152 [dl l] σ (fun r σ'=>r= .xs 1 (l.map D.str)/\σ'=σ):=(Yo l σ hl).toX fun _ _ h=>h
theorem Yz(l:Ls)(p:ByteArray->Bool)(f:FuncId)(caps:List D)(σ:List (List D))(hl:l.length<=1000000)(hcp:∀d∈caps,d.plain=true)(hcs:caps.map D.strip=caps)(hp:∀x τ,Ct prog f (D.str x::caps) τ (fun r τ'=>r= .bool (p x)/\τ'=τ)):Ct prog 256 [dl l,.clo (.func f) [] caps] σ (fun r σ'=>r= .xs 1 ((l.filter fun x=> !p x).map D.str)/\σ'=σ):=by
 refine zf func256 ?_;refine zr ⟨[4,7,8],[],[],[],[]⟩ fun _ _ Z=>?_;simp;apply Z;refine zr ⟨[4,7,8],[],[],[],[]⟩ fun _ _ Z=>?_;refine zs 1 fun _ Y=>?_;simp;apply Y;refine aF fun _ Y=>?_;simp;refine cN (aCf l _ hl) ?_;apply Y;refine zs 1 fun _ Y=>?_;simp;apply Y;refine aF fun _ Y=>?_;simp;refine cN (Lg l p f caps _ hl hcp hcs hp) ?_;apply Y;simp;apply Z;apply aC;simp[aG]
theorem aKd(x c:ByteArray)(σ:List (List D))  :Ct prog 257 [D.str x,.adr [D.str c]] σ (fun r σ'=>r= .bool (decide (x=c))/\σ'=σ):=by
 refine zf func257 ?_;refine bC fun _ _ Z=>?_;simp;apply Z;refine bC fun _ _ Z=>?_;simp;apply Z;apply aC;simp[aG]
theorem aCc(l:Ls)(c:ByteArray)(σ:List (List D))(hl:l.length<=1000000):Ct prog 230 [dl l,D.str c] σ (fun r σ'=>r= .xs 1 ((kG l c).map D.str)/\σ'=σ):=by
 refine zf func230 ?_;refine zr ⟨[4],[3],[],[],[]⟩ fun _ _ Z=>?_;simp;apply Z;refine zr ⟨[4],[3],[],[],[]⟩ fun _ _ Z=>?_;refine zs 2 fun _ Y=>?_;simp;and_intros<;>(try omega);apply Y;refine aF fun _ Y=>?_;simp;refine cN (Yz l (fun x=>decide (x=c)) 257 [.adr [D.str c]] _ hl (by simp) (by simp) (fun x τ=>aKd x c τ)) ?_;apply Y;simp;apply Z;apply aC;simp [aG,kG]
theorem aHp(l:Ls)(c:ByteArray)(σ:List (List D))(hl:l.length<=1000000):Ct prog 230 [dl l,D.str c] σ (fun r σ'=>r=dl (kG l c)/\σ'=σ):=(aCc l c σ hl).freeze fun _ _ h=>h
end Go.Proofs.YtbgfljpnhhdkoaaGreat
