import Derived.Test.YtbgfljpnhhdkoaaGreatVmTab
import Derived.Test.YtbgfljpnhhdkoaaGreatVmZ
set_option linter.all false
set_option maxRecDepth 20000
set_option maxHeartbeats 8000000
open Go.Proofs.Tryz
namespace Go.Proofs.YtbgfljpnhhdkoaaGreat
open Go Go.Vm
variable {c s:ByteArray}{k:Nat}{p:Int->Bool}
def kW(s:ByteArray)(k:Nat):Int:=((s.data[k]?.getD 0).toNat:Int)
def Tl(p:Int->Bool)(s:ByteArray):Bool:=(List.range s.size).all fun k=>p (kW s k)
theorem aIg (h:∀j,j<k->p (kW s j)=true)(hk:s.size<=k):Tl p s=true:=by
 unfold Tl;rw [gH];intro j hj;exact h j (by have:=dZ.1 hj;omega)
theorem aI3 (h:p (kW s k)=false)(hk:k<s.size):Tl p s=false:=by
 rw [<- zC];intro hh;unfold Tl at hh;rw [gH] at hh;have:=hh k (dZ.2 hk);rw [h] at this;cases this
theorem aSk (h:Tl p s=true)(k:Nat)(hk:k<s.size):p (kW s k)=true:=by
 unfold Tl at h;rw [gH] at h;exact h k (dZ.2 hk)
theorem Jb (h:∀j,j<k->p (kW s j)=true)(h2:p (kW s k)=true):∀j,j<k+1->p (kW s j)=true:=fun j hj=>by
 rcases Nu.1 hj with h1 | rfl
 .exact h j h1
 exact h2
def Mq(x0:Int)(x1:Int)(x2:Int):Int:=max x1 (min x0 x2)
theorem aO0(x0:Int)(x1:Int)(x2:Int)(σ:List (List D))  :Ct prog 131 [.v (.int .i64 x0),.v (.int .i64 x1),.v (.int .i64 x2)] σ (fun r σ'=>r= .v (.int .i64 (Mq x0 x1 x2))/\σ'=σ):=by
 refine zf func131 ?_;refine bF fun all K Z=>?_;simp;apply Z;clear Z K all;refine bF fun all K Z=>?_;simp;and_intros<;>(try omega);apply Z;clear Z K all;apply aC;first | (simp [aH,Mq];done) | (simp [aH,Mq];done) | (simp [aH];unfold Mq;(repeat' split) <;> first | (exfalso;omega) | (simp_all;done)) | (simp [aH,Mq, *];done) | (simp_all [aH,Mq];done) | (simp_all [aH,Mq];omega) | (simp [aH,Mq] <;> split <;> omega)
def As(x0:Int):Int:=max (-2147483648) (min x0 2147483647)
theorem Pt(x0:Int)(σ:List (List D))  :Ct prog 238 [.v (.int .i64 x0)] σ (fun r σ'=>r= .v (.int .i64 (As x0))/\σ'=σ):=by
 refine zf func238 ?_;refine bF fun all K Z=>?_;simp;apply Z;clear Z K all;refine bF fun all K Z=>?_;simp;and_intros<;>(try omega);apply Z;clear Z K all;apply aC;first | (simp [aH,As];done) | (simp [aH,As];done) | (simp [aH];unfold As;(repeat' split) <;> first | (exfalso;omega) | (simp_all;done)) | (simp [aH,As, *];done) | (simp_all [aH,As];done) | (simp_all [aH,As];omega) | (simp [aH,As] <;> split <;> omega)
def rS(x0:Int):Int:=if x0 > 2147483647 then 2147483647
 else if x0<(-2147483648)then(-2147483648)
  else x0
theorem aOz(x0:Int)(σ:List (List D))  :Ct prog 74 [.v (.int .i64 x0)] σ (fun r σ'=>r= .v (.int .i64 (rS x0))/\σ'=σ):=by
 refine zf func74 ?_;refine bF fun all K Z=>?_;simp;apply Z;clear Z K all;apply aE;refine bF fun all K Z=>?_;simp;apply Z;clear Z K all;refine zI ?_ ?_<;>intro c1<;>try simp at c1
 .all_goals try (exfalso;omega)
  all_goals
   refine bF fun all K Z=>?_;simp;apply Z;clear Z K all;apply aC;first | (simp [aH,rS,c1];done) | (simp [aH,rS];done) | (simp [aH];unfold rS;(repeat' split) <;> first | (exfalso;omega) | (simp_all;done)) | (simp [aH,rS, *];done) | (simp_all [aH,rS];done) | (simp_all [aH,rS];omega) | (simp [aH,rS] <;> split <;> omega)
 all_goals try (exfalso;omega)
 all_goals
  apply zA;apply aE;refine bF fun all K Z=>?_;simp;apply Z;clear Z K all;refine zI ?_ ?_<;>intro c2<;>try simp at c2
  .all_goals try (exfalso;omega)
   all_goals
    refine bF fun all K Z=>?_;simp;apply Z;clear Z K all;apply aC;first | (simp [aH,rS,c1,c2];done) | (simp [aH,rS];done) | (simp [aH];unfold rS;(repeat' split) <;> first | (exfalso;omega) | (simp_all;done)) | (simp [aH,rS, *];done) | (simp_all [aH,rS];done) | (simp_all [aH,rS];omega) | (simp [aH,rS] <;> split <;> omega)
  all_goals try (exfalso;omega)
  all_goals
   apply zA;refine bF fun all K Z=>?_;simp;apply Z;clear Z K all;apply aC;first | (simp [aH,rS,c1,c2];done) | (simp [aH,rS];done) | (simp [aH];unfold rS;(repeat' split) <;> first | (exfalso;omega) | (simp_all;done)) | (simp [aH,rS, *];done) | (simp_all [aH,rS];done) | (simp_all [aH,rS];omega) | (simp [aH,rS] <;> split <;> omega)
def kZ(x0:Int):Bool:=if x0>=97 then decide (x0<=122)
 else false
theorem Oe(x0:Int)(σ:List (List D))  :Ct prog 228 [.v (.int .u8 x0)] σ (fun r σ'=>r= .v (.bool (kZ x0))/\σ'=σ):=by
 refine zf func228 ?_;refine bF fun all K Z=>?_;simp;apply Z;clear Z K all;refine mK ⟨[],[],[],[],[]⟩ fun all hall K Z=>?_;have ga2:aO all 2=some 5:=hall 2;clear hall;refine zs 3 fun K' Y=>?_;simp[ga2];apply Y;clear Y K';refine zb 5 ?_ ?_<;>intro g1<;>try simp at g1
 .all_goals try (exfalso;omega)
  all_goals
   simp[ga2];apply Z;clear Z K ga2 all;apply aC;first | (simp [aH,kZ,g1];done) | (simp [aH,kZ];done) | (simp [aH];unfold kZ;(repeat' split) <;> first | (exfalso;omega) | (simp_all;done)) | (simp [aH,kZ, *];done) | (simp_all [aH,kZ];done) | (simp_all [aH,kZ];omega) | (simp [aH,kZ] <;> split <;> omega)
 all_goals try (exfalso;omega)
 all_goals
  simp[ga2];apply Z;clear Z K ga2 all;apply aC;first | (simp [aH,kZ,g1];done) | (simp [aH,kZ];done) | (simp [aH];unfold kZ;(repeat' split) <;> first | (exfalso;omega) | (simp_all;done)) | (simp [aH,kZ, *];done) | (simp_all [aH,kZ];done) | (simp_all [aH,kZ];omega) | (simp [aH,kZ] <;> split <;> omega)
def qZ(x0:Int):Bool:=if x0>=48 then decide (x0<=57)
 else false
theorem aIv(x0:Int)(σ:List (List D))  :Ct prog 267 [.v (.int .u8 x0)] σ (fun r σ'=>r= .v (.bool (qZ x0))/\σ'=σ):=by
 refine zf func267 ?_;refine bF fun all K Z=>?_;simp;apply Z;clear Z K all;refine mK ⟨[],[],[],[],[]⟩ fun all hall K Z=>?_;have ga2:aO all 2=some 5:=hall 2;clear hall;refine zs 3 fun K' Y=>?_;simp[ga2];apply Y;clear Y K';refine zb 5 ?_ ?_<;>intro g1<;>try simp at g1
 .all_goals try (exfalso;omega)
  all_goals
   simp[ga2];apply Z;clear Z K ga2 all;apply aC;first | (simp [aH,qZ,g1];done) | (simp [aH,qZ];done) | (simp [aH];unfold qZ;(repeat' split) <;> first | (exfalso;omega) | (simp_all;done)) | (simp [aH,qZ, *];done) | (simp_all [aH,qZ];done) | (simp_all [aH,qZ];omega) | (simp [aH,qZ] <;> split <;> omega)
 all_goals try (exfalso;omega)
 all_goals
  simp[ga2];apply Z;clear Z K ga2 all;apply aC;first | (simp [aH,qZ,g1];done) | (simp [aH,qZ];done) | (simp [aH];unfold qZ;(repeat' split) <;> first | (exfalso;omega) | (simp_all;done)) | (simp [aH,qZ, *];done) | (simp_all [aH,qZ];done) | (simp_all [aH,qZ];omega) | (simp [aH,qZ] <;> split <;> omega)
def plain(x0:Int):Bool:=if(kZ x0)=true then true
 else if(qZ x0)=true then true
  else decide (x0=45)
theorem aMv(x0:Int)(σ:List (List D))  :Ct prog 254 [.v (.int .u8 x0)] σ (fun r σ'=>r= .v (.bool (plain x0))/\σ'=σ):=by
 refine zf func254 ?_;refine bF fun all K Z=>?_;simp;apply Z;clear Z K all;refine mK ⟨[],[],[],[],[]⟩ fun all hall K Z=>?_;have ga2:aO all 2=some 5:=hall 2;have ga6:aO all 6=some 9:=hall 6;clear hall;refine zs 1 fun K' Y=>?_;simp[ga2,ga6];apply Y;clear Y K';refine aF fun K' Y=>?_;simp[ga2,ga6];refine cU (Oe x0 _) ?_;apply Y;clear Y K';refine zs 1 fun K' Y=>?_;simp[ga2,ga6];apply Y;clear Y K';refine zb 5 ?_ ?_<;>intro g1<;>try simp at g1
 .all_goals try (exfalso;omega)
  all_goals
   refine zs 4 fun K' Y=>?_;simp[ga2,ga6];apply Y;clear Y K';simp[ga2,ga6];apply Z;clear Z K ga2 ga6 all;apply aC;first | (simp [aH,plain,g1];done) | (simp [aH,plain];done) | (simp [aH];unfold plain;(repeat' split) <;> first | (exfalso;omega) | (simp_all;done)) | (simp [aH,plain, *];done) | (simp_all [aH,plain];done) | (simp_all [aH,plain];omega) | (simp [aH,plain] <;> split <;> omega)
 all_goals try (exfalso;omega)
 all_goals
  refine zs 1 fun K' Y=>?_;simp[ga2,ga6];apply Y;clear Y K';refine zg ga2 fun K' Y=>?_;simp[ga2,ga6];refine cU (aIv x0 _) ?_;apply Y;clear Y K';refine zs 2 fun K' Y=>?_;simp[ga2,ga6];apply Y;clear Y K';refine zb 9 ?_ ?_<;>intro g2<;>try simp at g2
  .all_goals try (exfalso;omega)
   all_goals
    simp[ga2,ga6];apply Z;clear Z K ga2 ga6 all;apply aC;first | (simp [aH,plain,g1,g2];done) | (simp [aH,plain];done) | (simp [aH];unfold plain;(repeat' split) <;> first | (exfalso;omega) | (simp_all;done)) | (simp [aH,plain, *];done) | (simp_all [aH,plain];done) | (simp_all [aH,plain];omega) | (simp [aH,plain] <;> split <;> omega)
  all_goals try (exfalso;omega)
  all_goals
   simp[ga2,ga6];apply Z;clear Z K ga2 ga6 all;apply aC;first | (simp [aH,plain,g1,g2];done) | (simp [aH,plain];done) | (simp [aH];unfold plain;(repeat' split) <;> first | (exfalso;omega) | (simp_all;done)) | (simp [aH,plain, *];done) | (simp_all [aH,plain];done) | (simp_all [aH,plain];omega) | (simp [aH,plain] <;> split <;> omega)
def dO (x0 : Int) : Bool := if x0 >= 97 then if x0 <= 122 then true
  else if x0>=48 then if x0<=57 then true
    else decide (x0=45)
   else decide (x0=45)
 else if x0>=48 then if x0<=57 then true
   else decide (x0=45)
  else decide (x0=45)
theorem aEn (x0 : Int) (σ : List (List D))  : Ct prog 216 [.v (.int .u8 x0)] σ (fun r σ' => r = .v (.bool (dO x0)) /\ σ' = σ) := by
 refine zf func216 ?_;refine bF fun all K Z=>?_;simp;apply Z;clear Z K all;refine mK ⟨[],[],[],[],[]⟩ fun all hall K Z=>?_;have ga2:aO all 2=some 5:=hall 2;have ga6:aO all 6=some 9:=hall 6;have ga9:aO all 9=some 12:=hall 9;have ga14:aO all 14=some 17:=hall 14;clear hall;refine zs 3 fun K' Y=>?_;simp[ga2,ga6,ga9,ga14];apply Y;clear Y K';refine zb 5 ?_ ?_<;>intro g1<;>try simp at g1
 .all_goals try (exfalso;omega)
  all_goals
   refine zs 4 fun K' Y=>?_;simp[ga2,ga6,ga9,ga14];apply Y;clear Y K';refine zb 9 ?_ ?_<;>intro g2<;>try simp at g2
   .all_goals try (exfalso;omega)
    all_goals
     refine zs 8 fun K' Y=>?_;simp[ga2,ga6,ga9,ga14];apply Y;clear Y K';simp[ga2,ga6,ga9,ga14];apply Z;clear Z K ga2 ga6 ga9 ga14 all;apply aC;first | (simp [aH,dO,g1,g2];done) | (simp [aH,dO];done) | (simp [aH];unfold dO;(repeat' split) <;> first | (exfalso;omega) | (simp_all;done)) | (simp [aH,dO, *];done) | (simp_all [aH,dO];done) | (simp_all [aH,dO];omega) | (simp [aH,dO] <;> split <;> omega)
   all_goals try (exfalso;omega)
   all_goals
    refine zs 3 fun K' Y=>?_;simp[ga2,ga6,ga9,ga14];apply Y;clear Y K';refine zb 12 ?_ ?_<;>intro g3<;>try simp at g3
    .all_goals try (exfalso;omega)
     all_goals
      refine zs 5 fun K' Y=>?_;simp[ga2,ga6,ga9,ga14];apply Y;clear Y K';refine zb 17 ?_ ?_<;>intro g4<;>try simp at g4
      .all_goals try (exfalso;omega)
       all_goals
        simp[ga2,ga6,ga9,ga14];apply Z;clear Z K ga2 ga6 ga9 ga14 all;apply aC;first | (simp [aH,dO,g1,g2,g3,g4];done) | (simp [aH,dO];done) | (simp [aH];unfold dO;(repeat' split) <;> first | (exfalso;omega) | (simp_all;done)) | (simp [aH,dO, *];done) | (simp_all [aH,dO];done) | (simp_all [aH,dO];omega) | (simp [aH,dO] <;> split <;> omega)
      all_goals try (exfalso;omega)
      all_goals
       simp[ga2,ga6,ga9,ga14];apply Z;clear Z K ga2 ga6 ga9 ga14 all;apply aC;first | (simp [aH,dO,g1,g2,g3,g4];done) | (simp [aH,dO];done) | (simp [aH];unfold dO;(repeat' split) <;> first | (exfalso;omega) | (simp_all;done)) | (simp [aH,dO, *];done) | (simp_all [aH,dO];done) | (simp_all [aH,dO];omega) | (simp [aH,dO] <;> split <;> omega)
    all_goals try (exfalso;omega)
    all_goals
     refine zs 5 fun K' Y=>?_;simp[ga2,ga6,ga9,ga14];apply Y;clear Y K';simp[ga2,ga6,ga9,ga14];apply Z;clear Z K ga2 ga6 ga9 ga14 all;apply aC;first | (simp [aH,dO,g1,g2,g3];done) | (simp [aH,dO];done) | (simp [aH];unfold dO;(repeat' split) <;> first | (exfalso;omega) | (simp_all;done)) | (simp [aH,dO, *];done) | (simp_all [aH,dO];done) | (simp_all [aH,dO];omega) | (simp [aH,dO] <;> split <;> omega)
 all_goals try (exfalso;omega)
 all_goals
  refine zs 4 fun K' Y=>?_;simp[ga2,ga6,ga9,ga14];apply Y;clear Y K';refine zs 3 fun K' Y=>?_;simp[ga2,ga6,ga9,ga14];apply Y;clear Y K';refine zb 12 ?_ ?_<;>intro g5<;>try simp at g5
  .all_goals try (exfalso;omega)
   all_goals
    refine zs 5 fun K' Y=>?_;simp[ga2,ga6,ga9,ga14];apply Y;clear Y K';refine zb 17 ?_ ?_<;>intro g6<;>try simp at g6
    .all_goals try (exfalso;omega)
     all_goals
      simp[ga2,ga6,ga9,ga14];apply Z;clear Z K ga2 ga6 ga9 ga14 all;apply aC;first | (simp [aH,dO,g1,g5,g6];done) | (simp [aH,dO];done) | (simp [aH];unfold dO;(repeat' split) <;> first | (exfalso;omega) | (simp_all;done)) | (simp [aH,dO, *];done) | (simp_all [aH,dO];done) | (simp_all [aH,dO];omega) | (simp [aH,dO] <;> split <;> omega)
    all_goals try (exfalso;omega)
    all_goals
     simp[ga2,ga6,ga9,ga14];apply Z;clear Z K ga2 ga6 ga9 ga14 all;apply aC;first | (simp [aH,dO,g1,g5,g6];done) | (simp [aH,dO];done) | (simp [aH];unfold dO;(repeat' split) <;> first | (exfalso;omega) | (simp_all;done)) | (simp [aH,dO, *];done) | (simp_all [aH,dO];done) | (simp_all [aH,dO];omega) | (simp [aH,dO] <;> split <;> omega)
  all_goals try (exfalso;omega)
  all_goals
   refine zs 5 fun K' Y=>?_;simp[ga2,ga6,ga9,ga14];apply Y;clear Y K';simp[ga2,ga6,ga9,ga14];apply Z;clear Z K ga2 ga6 ga9 ga14 all;apply aC;first | (simp [aH,dO,g1,g5];done) | (simp [aH,dO];done) | (simp [aH];unfold dO;(repeat' split) <;> first | (exfalso;omega) | (simp_all;done)) | (simp [aH,dO, *];done) | (simp_all [aH,dO];done) | (simp_all [aH,dO];omega) | (simp [aH,dO] <;> split <;> omega)
theorem aSf(x:Int):rS x=As x:=by
 unfold rS As
 repeat' split
 all_goals first | rfl | omega | skip
theorem Xm(x:Int):kZ x=true↔97<=x/\x<=122:=by unfold kZ;simp
theorem Pg(x:Int):plain x=true↔(97<=x/\x<=122)\/(48<=x/\x<=57)\/x=45:=by
 unfold plain kZ qZ;repeat' split
 all_goals simp_all
 all_goals omega
theorem Zn(x:Int):dO x=true↔(97<=x/\x<=122)\/(48<=x/\x<=57)\/x=45:=by
 unfold dO;repeat' split
 all_goals simp_all
 all_goals omega
theorem Og(x:Int):dO x=plain x:=by rw [iZ,Zn,Pg]
def Cv(s:ByteArray):Bool:=decide (1<=s.size/\s.size<=16) && Tl plain s
def dR(s:ByteArray):Bool:=Cv s && decide (97<=kW s 0)
theorem Wh(s:ByteArray):(s=⟨#[]⟩)↔s.size=0:=by
 constructor
 .rintro rfl;rfl
 intro h;cases s with
 | mk d=>
  have:d.size=0:=h;have:d=#[]:=by simpa using this
  rw [this]
theorem aNr(s:ByteArray)(p:Int->Bool)(f:FuncId)(σ:List (List D))(hs:s.size<=9223372036854775807)(hp:∀x τ,Ct prog f [.v (.int .u8 x)] τ (fun r τ'=>r= .bool (p x)/\τ'=τ)):Ct prog 253 [D.str s,.clo (.func f) [] []] σ (fun r σ'=>r= .bool (Tl p s)/\σ'=σ):=by
 refine zf func253 ?_;refine bF fun _ _ Z=>?_;simp;apply Z;apply aE;refine bF fun _ _ Z=>?_;simp;and_intros<;>(try omega);apply Z;apply aR;refine zk [0,1,4,7,8] ?_;refine bA (fun(k:Nat)=> [(8,.d (.v (.int .i64 (k:Int)))),(5,.d (.any))]) [4,5,8,9,10,11,12,13,14,15,16,17] (fun(k:Nat)=>k<=s.size/\∀j,j<k->p (kW s j)=true) (fun(k:Nat)=>s.size - k) (0) (by simp <;> rfl) ?_ ?_ ?_
 .simp
 .simp
 rintro k ⟨hk,hh⟩;simp only [aQ,aP];refine bF fun _ _ Z=>?_;simp;apply Z;apply aE;refine zI ?_ ?_<;>intro c1<;>try simp at c1
 .apply kP;refine bF fun _ _ Z=>?_;simp;apply Z;refine bF fun _ _ Z=>?_;refine zs 4 fun _ Y=>?_;simp;and_intros<;>(try omega);apply Y;refine aF fun _ Y=>?_;simp;refine cU (hp (kW s k) _) ?_;apply Y;simp;apply Z;refine zI ?_ ?_<;>intro c2<;>try simp at c2
  .refine zk [0,1,5,7,8] ?_;refine bF fun _ _ Z=>?_;simp;apply Z;apply aC;simp [aH];exact aI3 (k:=k) (by simpa [kW] using c2) (by omega)
  apply nS;refine zk [0,1,5,7,8] ?_;refine qJ fun _ _ Z=>?_;simp;and_intros<;>(try omega);apply Z;refine zq (k+1) ?_ ?_ ?_
  .exact⟨by omega,Jb hh (by simpa [kW] using c2)⟩
  .try dsimp only
   omega
  simp
 apply zE;refine bF fun _ _ Z=>?_;simp;apply Z;apply aC;simp [aH];exact aIg hh (by omega)
theorem aPj(s:ByteArray)(σ:List (List D))(hs:s.size<=9223372036854775807):Ct prog 227 [D.str s] σ (fun r σ'=>r= .bool (Cv s)/\σ'=σ):=by
 refine zf func227 ?_;refine bF fun _ _ Z=>?_;simp;apply Z;refine mK ⟨[],[],[],[],[]⟩ fun all hall _ Z=>?_;have ga2:aO all 2=some 5:=hall 2;have ga7:aO all 7=some 10:=hall 7;refine zs 3 fun _ Y=>?_;simp[ga2,ga7];apply Y;refine zb 5 ?_ ?_<;>intro g1<;>try simp at g1
 .refine zs 5 fun _ Y=>?_;simp[ga2,ga7];and_intros<;>(try omega);apply Y;refine zb 10 ?_ ?_<;>intro g2<;>try simp at g2
  .refine zs 1 fun _ Y=>?_;simp[ga2,ga7];apply Y;refine zg ga7 fun _ Y=>?_;simp[ga2,ga7];refine cU (aNr s plain 254 _ hs (fun x τ=>aMv x τ)) ?_;apply Y;simp[ga2,ga7];apply Z;apply aC;simp [aH,Cv];rw [Wh] at g1
   intros;omega
  simp[ga2,ga7];apply Z;apply aC;simp [aH,Cv]
  intros;omega
 refine zs 5 fun _ Y=>?_;simp[ga2,ga7];apply Y;simp[ga2,ga7];apply Z;apply aC;simp [aH,Cv];rw [Wh] at g1
 intros;omega
theorem Jf (h:Cv s=true):0<s.size/\s.size<=16:=by
 unfold Cv at h;simp at h;omega
theorem Wt (h:Cv s=true):kZ (kW s 0)=decide (97<=kW s 0):=by
 have hp:=(Jf h).1;unfold Cv at h;rw [gO] at h;have:=aSk h.2 0 hp;rw [Pg] at this;rw [iZ,Xm,fM];omega
theorem tP(s:ByteArray)(σ:List (List D))(hs:s.size<=9223372036854775807):Ct prog 193 [D.str s] σ (fun r σ'=>r= .bool (dR s)/\σ'=σ):=by
 refine zf func193 ?_;refine bF fun _ _ Z=>?_;simp;apply Z;refine mK ⟨[],[],[],[],[]⟩ fun all hall _ Z=>?_;have ga2:aO all 2=some 5:=hall 2;refine zs 1 fun _ Y=>?_;simp[ga2];apply Y;refine aF fun _ Y=>?_;simp[ga2];refine cU (aPj s _ hs) ?_;apply Y;refine zs 1 fun _ Y=>?_;simp[ga2];apply Y;refine zb 5 ?_ ?_<;>intro g1<;>try simp at g1
 .have hpos:=Jf g1;refine zs 2 fun _ Y=>?_;simp[ga2];and_intros<;>(try omega);apply Y;refine zg ga2 fun _ Y=>?_;simp[ga2];refine cU (Oe (kW s 0) _) ?_;apply Y;simp[ga2];apply Z;apply aC;simp [aH,dR,g1,Wt g1]
 simp[ga2];apply Z;apply aC;simp [aH,dR,g1]
theorem aBp(s:ByteArray)(σ:List (List D))(hs:s.size<=9223372036854775807):Ct prog 162 [D.str s] σ (fun r σ'=>r= .bool (Cv s)/\σ'=σ):=by
 refine zf func162 ?_;refine bF fun _ _ Z=>?_;simp;apply Z;apply aE;refine bF fun _ _ Z=>?_;simp;apply Z;apply aR;refine zk [0,2,3] ?_;refine bA (fun(k:Nat)=> [(3,.d (.v (.int .i64 (k:Int))))]) [2,3,4,5,6,7,8,9,10,11,12,13,14] (fun(k:Nat)=>k<=s.size/\∀j,j<k->plain (kW s j)=true) (fun(k:Nat)=>s.size - k) (0) (by simp <;> rfl) ?_ ?_ ?_
 .simp
 .simp
 rintro k ⟨hk,hh⟩;simp only [aQ,aP];apply aE;refine bF fun _ _ Z=>?_;simp;and_intros<;>(try omega);apply Z;refine zI ?_ ?_<;>intro c1<;>try simp at c1
 .apply kP;refine bF fun _ _ Z=>?_;refine zs 3 fun _ Y=>?_;simp;and_intros<;>(try omega);apply Y;refine aF fun _ Y=>?_;simp;refine cU (aEn (kW s k) _) ?_;apply Y;simp;apply Z;refine zI ?_ ?_<;>intro c2<;>try simp at c2
  .refine bF fun _ _ Z=>?_;simp;apply Z;apply aC;simp [aH,Cv];intro _ _;exact aI3 (k:=k) (by rw [<- Og];simpa [kW] using c2) (by omega)
  apply nS;refine qJ fun _ _ Z=>?_;simp;and_intros<;>(try omega);apply Z;refine zq (k+1) ?_ ?_ ?_
  .exact⟨by omega,Jb hh (by rw [<- Og];simpa [kW] using c2)⟩
  .try dsimp only
   omega
  simp
 apply zE;refine mK ⟨[],[],[],[],[]⟩ fun all hall _ Z=>?_;have ga3:aO all 3=some 18:=hall 3;refine zs 4 fun _ Y=>?_;simp[ga3];and_intros<;>(try omega);apply Y;refine zb 18 ?_ ?_<;>intro g3<;>try simp at g3
 .simp[ga3];and_intros<;>(try omega);apply Z;apply aC;simp [aH,Cv];have:=aIg (p:=plain) (s:=s) hh (by omega);simp [this];rw [iZ];simp;omega
 simp[ga3];apply Z;apply aC;simp [aH,Cv]
 intros;omega
theorem wZ(s:ByteArray)(σ:List (List D))(hs:s.size<=9223372036854775807):Ct prog 71 [D.str s] σ (fun r σ'=>r= .bool (dR s)/\σ'=σ):=by
 refine zf func71 ?_;refine bF fun _ _ Z=>?_;simp;apply Z;refine mK ⟨[],[],[],[],[]⟩ fun all hall _ Z=>?_;have ga2:aO all 2=some 5:=hall 2;refine zs 1 fun _ Y=>?_;simp[ga2];apply Y;refine aF fun _ Y=>?_;simp[ga2];refine cU (aBp s _ hs) ?_;apply Y;refine zs 1 fun _ Y=>?_;simp[ga2];apply Y;refine zb 5 ?_ ?_<;>intro g1<;>try simp at g1
 .have hpos:=Jf g1;simp[ga2];and_intros<;>(try omega);apply Z;apply aC;simp [aH,dR,g1,kW];rfl
 simp[ga2];apply Z;apply aC;simp [aH,dR,g1]
def tJ(n:Nat)(s:ByteArray):ByteArray:=if n<s.size then s.extract 0 n else s
theorem sX(n:Nat)(s:ByteArray):(tJ n s).size<=n:=by
 unfold tJ;split
 .simp;omega
 omega
theorem At(s:ByteArray)(n:Nat)(σ:List (List D))(hn:n<=1000000):Ct prog 20 [D.str s,D.int n] σ (fun r σ'=>r= .v (.string (tJ n s))/\σ'=σ):=by
 refine zf func20 ?_;refine bF fun _ _ Z=>?_;simp;apply Z;apply aE;refine bF fun _ _ Z=>?_;simp;and_intros<;>(try omega);apply Z;refine zI ?_ ?_<;>intro c1<;>try simp at c1
 .refine bF fun _ _ Z=>?_;simp;and_intros<;>(try omega);apply Z;apply aC;simp [aH,tJ,c1]
 apply zA;refine bF fun _ _ Z=>?_;simp;apply Z;apply aC;simp [aH,tJ];intro h;omega
abbrev Ls:=List ByteArray
@[simp] abbrev dl(l:Ls):D:= .sl false (l.map D.str)
@[simp] abbrev dlo(l:Ls):D:= .sl true (l.map D.str)
def has(c:ByteArray)(l:Ls):Bool:=l.any fun x=>decide (x=c)
theorem Dc(c x:ByteArray)(l:Ls):has c (l++ [x])=(has c l || decide (x=c)):=by simp [has]
theorem Im {l:Ls} (h:k<l.length)(e:l[k]=c):has c l=true:=by
 simp only [has,oE,fM];exact⟨l[k],bP h,e⟩
def rF(l:Ls)(c:ByteArray):Ls:=if has c l then l else l++ [c]
theorem aLf(l:Ls)(c:ByteArray):(rF l c).length<=l.length+1:=by
 unfold rF;split <;> simp
def Yb(c:ByteArray)(l:Ls):Int:=match l.findIdx? (fun x=>decide (x=c))with | some k=>k | none=> -1
theorem aOf {l:Ls} (h:k<l.length)(hh:has c (l.take k)=false)(e:c=l[k]):Yb c l=k:=by
 have:l.findIdx? (fun x=>decide (x=c))=some k:=by
  rw [pV];refine⟨h,by simp [e],fun j hj=>?_⟩;simp only [has,qB,fM] at hh;have:=hh ((l.take k)[j]'(by simp;omega)) (bP _);simpa using this
 simp [Yb,this]
theorem aDo {l:Ls} (h:has c l=false):Yb c l= -1:=by
 have:l.findIdx? (fun x=>decide (x=c))=none:=by
  rw [pQ];simpa [has] using h
 simp [Yb,this]
theorem aL3(c:ByteArray)(l:Ls):(0<=Yb c l)↔has c l=true:=by
 unfold Yb;split
 .rename_i k h;rw [pV] at h;obtain⟨hk,he,_⟩:=h;simp only [fM] at he;simp [Im hk he]
 rename_i h;rw [pQ] at h;simp [has];intro e;have:=h c e;simp at this
def kM(l:Ls)(c:ByteArray):Ls:=l.filter fun x=> !decide (x=c)
theorem vN(l:Ls)(x c:ByteArray):kM (l++ [x]) c=kM l c++if x=c then [] else [x]:=by
 simp [kM,fY,gP]
theorem Lk(l:Ls)(c:ByteArray)(k:Nat)(h:k<l.length):kM (l.take (k+1)) c=kM (l.take k) c++if l[k]=c then [] else [l[k]]:=by rw [bS l k h,vN]
theorem Mv(l:Ls)(c:ByteArray):(kM l c).length<=l.length:=kH _ _
theorem Qz(l:Ls)(c:ByteArray)(σ:List (List D))(hl:l.length<=9223372036854775807):Ct prog 77 [dl l,D.str c] σ (fun r σ'=>r= .bool (has c l)/\σ'=σ):=by
 refine zf func77 ?_;refine bF fun _ _ Z=>?_;simp(disch:=omega);apply Z;apply aE;refine bF fun _ _ Z=>?_;simp(disch:=omega);and_intros<;>(try omega);apply Z;apply aR;refine zk [1,4,7,8,9] ?_;refine bA (fun(k:Nat)=> [(9,.d (.int k))]) [4,6,9,10,11,12,13,14,15,16] (fun(k:Nat)=>k<=l.length/\has c (l.take k)=false) (fun(k:Nat)=>l.length - k) (0) (by simp <;> rfl) ?_ ?_ ?_
 .simp
 .simp [has]
 rintro k ⟨hk,hh⟩;simp only [aQ,aP];refine bF fun _ _ Z=>?_;simp(disch:=omega);apply Z;apply aE;refine zI ?_ ?_<;>intro c1<;>try simp at c1
 .apply kP;refine bF fun _ _ Z=>?_;simp(disch:=omega);and_intros<;>(try omega);apply Z;refine bF fun _ _ Z=>?_;simp(disch:=omega);apply Z;refine zI ?_ ?_<;>intro c2<;>try simp at c2
  .refine bF fun _ _ Z=>?_;simp(disch:=omega);apply Z;apply aC;simp [aH];exact Im c1 c2
  apply nS;refine qJ fun _ _ Z=>?_;simp(disch:=omega);and_intros<;>(try omega);apply Z;refine zq (k+1) ?_ ?_ ?_
  .exact⟨by omega,by rw [bS l k (by omega),Dc,hh];simp [*]⟩
  .try dsimp only
   omega
  simp(disch:=omega)
 apply zE;refine bF fun _ _ Z=>?_;simp(disch:=omega);apply Z;apply aC;simp [aH];rw [cC (by omega)] at hh;exact hh
@[simp] abbrev q29_1:Cfg:=⟨[4,5,18,23],[],[],[],[]⟩
theorem aMj(l:Ls)(c:ByteArray)(σ:List (List D))(hl:l.length<=1000000):Ct prog 78 [dl l,D.str c] σ (fun r σ'=>r=dlo (kM l c)/\σ'=σ):=by
 refine zf func78 ?_;refine zr q29_1 fun _ _ Z=>?_;simp(disch:=omega);apply Z;refine zr q29_1 fun _ _ Z=>?_;simp(disch:=omega);and_intros<;>(try omega);apply Z;apply aE;refine zr q29_1 fun _ _ Z=>?_;simp(disch:=omega);and_intros<;>(try omega);apply Z;apply aR;refine zk [1,4,5,9,10,11] ?_;refine bA (fun(k:Nat)=> [(11,.d (.int k)),(5,.d (dlo (kM (l.take k) c)))]) [5,7,11,12,13,14,15,16,17,18,19,20,21,22] (fun(k:Nat)=>k<=l.length) (fun(k:Nat)=>l.length - k) (0) (by simp <;> rfl) ?_ ?_ ?_
 .simp [kM]
 .simp
 rintro k hk;simp only [aQ,aP];have hcl:=Mv (l.take k) c;simp only [bG] at hcl;refine zr q29_1 fun _ _ Z=>?_;simp(disch:=omega);apply Z;apply aE;refine zI ?_ ?_<;>intro c1<;>try simp at c1
 .apply kP;refine zr q29_1 fun _ _ Z=>?_;simp(disch:=omega);and_intros<;>(try omega);apply Z;refine zr q29_1 fun _ _ Z=>?_;simp(disch:=omega);apply Z;refine zI ?_ ?_<;>intro c2<;>try simp at c2
  .refine zk [1,4,5,7,9,10,11] ?_;refine zt q29_1 fun _ _ Z=>?_;simp(disch:=omega);and_intros<;>(try omega);apply Z;apply zB;refine zk [1,4,5,9,10,11] ?_;refine zt q29_1 fun _ _ Z=>?_;simp(disch:=omega);and_intros<;>(try omega);apply Z;refine zq (k+1) ?_ ?_ ?_
   .omega
   .try dsimp only
    omega
   simp(disch:=omega)[Lk,c2]
  apply nS;refine zk [1,4,5,9,10,11] ?_;refine zt q29_1 fun _ _ Z=>?_;simp(disch:=omega);and_intros<;>(try omega);apply Z;refine zq (k+1) ?_ ?_ ?_
  .omega
  .try dsimp only
   omega
  simp(disch:=omega)[Lk,c2]
 apply zE;refine zr q29_1 fun _ _ Z=>?_;simp(disch:=omega);apply Z;apply aC;simp [aH];rw [cC (by omega)]
theorem aIo(l:Ls)(c:ByteArray)(σ:List (List D))(hl:l.length<=9223372036854775807):Ct prog 255 [dl l,D.str c] σ (fun r σ'=>r= .int (Yb c l)/\σ'=σ):=by
 refine zf func255 ?_;refine bF fun _ _ Z=>?_;simp(disch:=omega);apply Z;apply aE;refine bF fun _ _ Z=>?_;simp(disch:=omega);and_intros<;>(try omega);apply Z;apply aR;refine zk [0,1,4,7,8] ?_;refine bA (fun(k:Nat)=> [(8,.d (.int k))]) [4,5,8,9,10,11,12,13,14,15,16,17,18] (fun(k:Nat)=>k<=l.length/\has c (l.take k)=false) (fun(k:Nat)=>l.length - k) (0) (by simp <;> rfl) ?_ ?_ ?_
 .simp
 .simp [has]
 rintro k ⟨hk,hh⟩;simp only [aQ,aP];refine bF fun _ _ Z=>?_;simp(disch:=omega);apply Z;apply aE;refine zI ?_ ?_<;>intro c1<;>try simp at c1
 .apply kP;refine bF fun _ _ Z=>?_;simp(disch:=omega);apply Z;refine bF fun _ _ Z=>?_;simp(disch:=omega);and_intros<;>(try omega);apply Z;refine zI ?_ ?_<;>intro c2<;>try simp at c2
  .refine zk [0,1,5,7,8] ?_;refine bF fun _ _ Z=>?_;simp(disch:=omega);apply Z;apply aC;simp [aH];exact(aOf c1 hh c2).symm
  apply nS;refine zk [0,1,7,8] ?_;refine qJ fun _ _ Z=>?_;simp(disch:=omega);and_intros<;>(try omega);apply Z;refine zq (k+1) ?_ ?_ ?_
  .exact⟨by omega,by rw [bS l k (by omega),Dc,hh];simp;exact fun e=>c2 e.symm⟩
  .try dsimp only
   omega
  simp(disch:=omega)
 apply zE;refine bF fun _ _ Z=>?_;simp(disch:=omega);apply Z;apply aC;simp [aH];rw [cC (by omega)] at hh;exact(aDo hh).symm
theorem Sr(l:Ls)(c:ByteArray)(σ:List (List D))(hl:l.length<=9223372036854775807):Ct prog 229 [dl l,D.str c] σ (fun r σ'=>r= .bool (has c l)/\σ'=σ):=by
 refine zf func229 ?_;refine bF fun _ _ Z=>?_;simp;apply Z;refine bF fun _ _ Z=>?_;refine zs 2 fun _ Y=>?_;simp;apply Y;refine aF fun _ Y=>?_;simp;refine cU (aIo _ _ _ hl) ?_;apply Y;simp;apply Z;apply aC;simp [aH,aL3]
theorem yJ(l:Ls)(c:ByteArray)(σ:List (List D))(hl:l.length<=9223372036854775807):Ct prog 195 [dl l,D.str c] σ (fun r σ'=>r= .bool (has c l)/\σ'=σ):=by
 refine zf func195 ?_;refine bF fun _ _ Z=>?_;simp;apply Z;refine bF fun _ _ Z=>?_;refine zs 2 fun _ Y=>?_;simp;apply Y;refine aF fun _ Y=>?_;simp;refine cU (Sr _ _ _ hl) ?_;apply Y;simp;apply Z;apply aC;simp[aH]
theorem Lf(l:Ls)(σ:List (List D))(hl:l.length<=1000000):Ct prog 152 [dl l] σ (fun r σ'=>r=dlo l/\σ'=σ):=by
 refine zf func152 ?_;refine zr ⟨[2],[],[],[],[]⟩ fun _ _ Z=>?_;simp;apply Z;apply aE;refine zr ⟨[2],[],[],[],[]⟩ fun _ _ Z=>?_;refine zs 1 fun _ Y=>?_;simp;apply Y;refine aF fun _ Y=>?_;simp;refine⟨Y _ ?_,fun e1=>Y _ ?_⟩
 .simp only [eF];apply Z;refine aZ (t:=false) (by simp) (fun h=>by cases h) (fun _=>?_);apply zA;refine zr ⟨[2],[],[],[],[]⟩ fun _ _ Z=>?_;simp;and_intros<;>(try omega);apply Z;apply aC;simp [aH]
 simp only [eF];apply Z;refine aZ (t:=true) (by simp) (fun _=>?_) (fun h=>by cases h);refine zr ⟨[2],[],[],[],[]⟩ fun _ _ Z=>?_;simp;apply Z;apply aC;simp [aH,e1]
@[simp] abbrev q29_2:Cfg:=⟨[4,5,12,16],[],[],[],[]⟩
theorem aJ2(l:Ls)(c:ByteArray)(σ:List (List D))(hl:l.length<=1000000):Ct prog 186 [dl l,D.str c] σ (fun r σ'=>r=dlo (rF l c)/\σ'=σ):=by
 refine zf func186 ?_;refine zr q29_2 fun _ _ Z=>?_;simp;apply Z;refine zr q29_2 fun _ _ Z=>?_;refine zs 1 fun _ Y=>?_;simp;apply Y;refine aF fun _ Y=>?_;simp;refine cU (Lf _ _ hl) ?_;apply Y;simp;apply Z;apply aE;refine zr q29_2 fun _ _ Z=>?_;refine zs 2 fun _ Y=>?_;simp;apply Y;refine aF fun _ Y=>?_;simp;refine cU (yJ l _ _ (by omega)) ?_;apply Y;simp;apply Z;refine zI ?_ ?_<;>intro c1<;>try simp at c1
 .refine zt q29_2 fun _ _ Z=>?_;simp;and_intros<;>(try omega);apply Z;apply fV;refine zk [4,5] ?_;refine zr q29_2 fun _ _ Z=>?_;simp;apply Z;apply aC;simp [aH,rF,c1]
 apply zA;refine zr q29_2 fun _ _ Z=>?_;simp;apply Z;apply aC;simp [aH,rF,c1]
theorem Ly(l:Ls)(p:ByteArray->Bool)(f:FuncId)(caps:List D)(m cap:Nat)(rest:List D)(σ:List (List D))(hl:l.length<=9223372036854775807)(hσ:σ[m]?=some (l.map D.str++rest))(hcp:∀d∈caps,d.plain=true)(hcs:caps.map D.strip=caps)(hp:∀x τ,Ct prog f (D.str x::caps) τ (fun r τ'=>r= .bool (p x)/\τ'=τ)):Ct prog 226 [.slo m 0 l.length cap,.clo (.func f) [] caps] σ (fun r σ'=>r= .int (wB p l)/\σ'=σ):=by
 refine zf func226 ?_;refine zr ⟨[],[],[],[7,14],[]⟩ fun _ _ Z=>?_;simp(disch:=omega)[hσ,hcs,fI];apply Z;apply aE;refine zr ⟨[],[],[],[7,14],[]⟩ fun _ _ Z=>?_;simp(disch:=omega)[hσ,hcs,fI];and_intros<;>(try omega);apply Z;apply aR;refine zk [0,1,4,7,8] ?_;refine bA (fun(k:Nat)=> [(8,.d (.v (.int .i64 (k:Int))))]) [4,5,8,9,10,11,12,13,14,15,16,17,18] (fun(k:Nat)=>k<=l.length/\∀x∈l.take k,p x=false) (fun(k:Nat)=>l.length - k) (0) (by simp <;> rfl) ?_ ?_ ?_
 .simp
 .simp
 rintro k ⟨hk,hh⟩;simp only [aQ,aP];refine zr ⟨[],[],[],[7,14],[]⟩ fun _ _ Z=>?_;simp(disch:=omega)[hσ,hcs,fI];apply Z;apply aE;refine zI ?_ ?_<;>intro c1<;>try simp at c1
 .apply kP;refine zr ⟨[],[],[],[7,14],[]⟩ fun _ _ Z=>?_;simp(disch:=omega)[hσ,hcs,fI];apply Z;refine zr ⟨[],[],[],[7,14],[]⟩ fun _ _ Z=>?_;refine zs 5 fun _ Y=>?_;simp(disch:=omega)[hσ,hcs,fI];and_intros<;>(try omega);apply Y;refine aF fun _ Y=>?_;simp(disch:=omega)[hσ,hcs,fI];refine⟨hcp,?_⟩;refine cU (hp l[k] _) ?_;apply Y;simp only [eF];apply Z;refine zI ?_ ?_<;>intro c2<;>try simp at c2
  .refine zk [0,1,5,7,8] ?_;refine zr ⟨[],[],[],[7,14],[]⟩ fun _ _ Z=>?_;simp(disch:=omega)[hσ,hcs,fI];apply Z;apply aC;simp [aH];exact(Ie c1 hh c2).symm
  apply nS;refine zk [0,1,7,8] ?_;refine zt ⟨[],[],[],[7,14],[]⟩ fun _ _ Z=>?_;simp(disch:=omega)[hσ,hcs,fI];and_intros<;>(try omega);apply Z;refine zq (k+1) ?_ ?_ ?_
  .exact⟨by omega,uL (by omega) hh c2⟩
  .try dsimp only
   omega
  simp(disch:=omega)[hσ,hcs,fI]
 apply zE;refine zr ⟨[],[],[],[7,14],[]⟩ fun _ _ Z=>?_;simp(disch:=omega)[hσ,hcs,fI];apply Z;apply aC;simp [aH];rw [cC (by omega)] at hh;exact(yP hh).symm
theorem Mm(f:FuncId)(caps:List D)(σ:List (List D))(hcp:∀d∈caps,d.plain=true):Ct prog 226 [.xl 0,.clo (.func f) [] caps] σ (fun r σ'=>r= .int (-1)/\σ'=σ):=by
 refine zf func226 ?_;refine zr ⟨[],[],[],[7],[]⟩ fun _ _ Z=>?_;simp;apply Z;apply aE;refine zr ⟨[],[],[],[7],[]⟩ fun _ _ Z=>?_;simp;and_intros<;>(try omega);apply Z;apply aR;refine zk [0,1,4,7,8] ?_;refine bA (fun(k:Nat)=> [(8,.d (.int 0))]) [4,5,8,9,10,11,12,13,14,15,16,17,18] (fun(k:Nat)=>k=0) (fun(k:Nat)=>0) (0) (by simp <;> rfl) ?_ ?_ ?_
 .simp
 .rfl
 rintro k hk;simp only [aQ,aP];refine zr ⟨[],[],[],[7],[]⟩ fun _ _ Z=>?_;simp;apply Z;apply aE;refine zI ?_ ?_<;>intro c1<;>try simp at c1
 apply zE;refine zr ⟨[],[],[],[7],[]⟩ fun _ _ Z=>?_;simp;apply Z;apply aC;simp [aH]
theorem Vw(p:ByteArray->Bool)(l k:Ls)(rest:List D):List.take k.length ((k++l).map D.str++rest)=k.map D.str:=by
 rw [cN,bW,Nh (by simp)];rw [cC (by simp)]
@[simp] abbrev q29_3:Cfg:=⟨[4,13],[],[],[18,24,33,38,41],[]⟩
theorem Jc(l:Ls)(p:ByteArray->Bool)(f:FuncId)(caps:List D)(σ:List (List D))(hl:l.length<=1000000)(hne:l≠ [])(hcp:∀d∈caps,d.plain=true)(hcs:caps.map D.strip=caps)(hp:∀x τ,Ct prog f (D.str x::caps) τ (fun r τ'=>r= .bool (p x)/\τ'=τ)):Ct prog 268 [.xs 1 (l.map D.str),.clo (.func f) [] caps] σ (fun r σ'=>r= .xs 1 ((l.filter fun x=> !p x).map D.str)/\σ'=σ++ [[]]):=by
 refine zf func268 ?_;refine rW 0 1 rfl (by decide) fun cap rest hcap hcm hrest hk0 hes=>?_;simp only [bQ] at hcap hrest |-;rw [tY (f:=D.str) (fun _=>rfl)];refine zr q29_3 fun _ _ Z=>?_;simp(disch:=first|omega|assumption)[hcs,fI,iR];apply Z;refine zr q29_3 fun _ _ Z=>?_;refine zs 2 fun _ Y=>?_;simp(disch:=first|omega|assumption)[hcs,fI,iR];apply Y;refine aF fun _ Y=>?_;simp(disch:=first|omega|assumption)[hcs,fI,iR];refine cU (Ly l p f caps σ.length cap rest _ (by omega) (by simp) hcp hcs hp) ?_;apply Y;simp(disch:=first|omega|assumption)[hcs,fI,iR];apply Z;apply aE;refine zr q29_3 fun _ _ Z=>?_;simp(disch:=first|omega|assumption)[hcs,fI,iR];apply Z;refine zI ?_ ?_<;>intro c1<;>try simp at c1
 .refine zr q29_3 fun _ _ Z=>?_;simp(disch:=first|omega|assumption)[hcs,fI,iR];apply Z;refine fD 4 1 σ.length l.length cap (l.map D.str) (l.map D.str++rest) (by simp <;> rfl) (by simp) (by omega) (by simp [hrest];omega) (by simp) (by simp) (by rw [tY (fun _=>rfl)];exact cZ _ _) ?_;simp only [sW];apply aC;simp [aH];rcases Ay p l with ⟨_,h⟩ | ⟨k,h,_⟩
  .rw [h]
  omega
 obtain⟨k0,e0,e1,e2,e3⟩:=Kl c1;rw [e0];apply zA;apply aE;refine zr q29_3 fun _ _ Z=>?_;simp(disch:=first|omega|assumption)[hcs,fI,iR];and_intros<;>try first|omega|exact rfl
 apply Z;apply aR;refine zk [0,1,4,5,6] ?_;refine oL (fun(j:Nat)=> [(5,.d (.v (.int .i64 ((kp p l j).length:Int)))),(6,.d (.v (.int .i64 (j:Int))))]) (fun(j:Nat)=> []) (fun(j:Nat)=> [(σ.length,(ar p l j).map D.str++rest)]) [5,6,7,16,17,18,19,20,21,22,23,24,25,26,27,28,29,30,31,32,33,34,35] (fun(j:Nat)=>j<=l.length) (fun(j:Nat)=>l.length - j) (k0+1) (by simp <;> rfl) ?_ (by simp) (by simp [e1]) ?_ ?_
 .simp [e1,e2]
 .omega
 rintro j hj;simp only [aQ,aP,oY,nC,iY,iQ];have hkl:=Vn p l j hj;have hal:=Rs p l j;apply aE;refine zr q29_3 fun _ _ Z=>?_;simp(disch:=first|omega|assumption)[hcs,fI,iR];and_intros<;>try first|omega|exact rfl
 apply Z;refine zI ?_ ?_<;>intro c2<;>try simp at c2
 .apply kP;refine zr q29_3 fun _ _ Z=>?_;simp(disch:=first|omega|assumption)[hcs,fI,iR];and_intros<;>try first|omega|exact rfl
  apply Z;refine zk [0,1,4,5,6,7] ?_;refine zr q29_3 fun _ _ Z=>?_;refine zs 2 fun _ Y=>?_;simp(disch:=first|omega|assumption)[hcs,fI,iR];apply Y;refine aF fun _ Y=>?_;simp(disch:=first|omega|assumption)[hcs,fI,iR];simp only [aI0 p l j (by omega)];refine⟨hcp,?_⟩;refine cU (hp l[j] _) ?_;apply Y;simp(disch:=first|omega|assumption)[hcs,fI,iR];apply Z;refine zI ?_ ?_<;>intro c3<;>try simp at c3
  .refine zr q29_3 fun _ _ Z=>?_;simp(disch:=first|omega|assumption)[hcs,fI,iR];and_intros<;>try first|omega|exact rfl
   apply Z;refine zk [0,1,4,5,6] ?_;refine zt q29_3 fun _ _ Z=>?_;simp(disch:=first|omega|assumption)[hcs,fI,iR];and_intros<;>try first|omega|exact rfl
   apply Z;apply zB;refine zt q29_3 fun _ _ Z=>?_;simp(disch:=first|omega|assumption)[hcs,fI,iR];and_intros<;>try first|omega|exact rfl
   apply Z;refine fU (j+1) ?_ ?_ (eN rfl ?_ (by simp) (by rw [<- (Hh p l j (by omega) c3).1];simp(disch:=omega) [aL4,hal]))
   .omega
   .try dsimp only
    omega
   simp(disch:=first|omega|assumption)[hcs,fI,iR,(Hh p l j (by omega) c3).2]
  apply nS;refine zt q29_3 fun _ _ Z=>?_;simp(disch:=first|omega|assumption)[hcs,fI,iR];and_intros<;>try first|omega|exact rfl
  apply Z;refine fU (j+1) ?_ ?_ (eN rfl ?_ (by simp) (by simp [(Ap p l j (by omega) c3).1]))
  .omega
  .try dsimp only
   omega
  simp(disch:=first|omega|assumption)[hcs,fI,iR,(Ap p l j (by omega) c3).2]
 apply zE;refine zr q29_3 fun _ _ Z=>?_;simp(disch:=first|omega|assumption)[hcs,fI,iR];and_intros<;>try first|omega|exact rfl
 apply Z;refine zk [0,4,5] ?_;refine zr q29_3 fun _ _ Z=>?_;simp(disch:=first|omega|assumption)[hcs,fI,iR];and_intros<;>try first|omega|exact rfl
 apply Z;refine fD 4 1 σ.length (kp p l j).length cap ((kp p l j).map D.str) ((kp p l j).map D.str++(jH #[.string ⟨#[]⟩] (l.length - (kp p l j).length)++rest)) (by simp <;> rfl) (by rw [show List.map D.str (kp p l j)=List.take (kp p l j).length (List.map D.str (ar p l j)++rest)from(Vw p _ _ rest).symm];simp [jO (z:=#[.string ⟨#[]⟩]) (k:=1) rfl,show(kp p l j).length+(l.length - (kp p l j).length)=l.length by omega,aGx D.str (ar p l j) rest l.length hal.symm]) (by omega) (by simp [hrest,jO (z:=#[.string ⟨#[]⟩]) (k:=1) rfl];omega) (by simp) (by simp) (by rw [tY (fun _=>rfl)];exact cZ _ _) ?_;simp only [sW];apply aC;simp [aH];unfold kp;rw [cC (by omega)]
theorem Kr(f:FuncId)(caps:List D)(σ:List (List D))(hcp:∀d∈caps,d.plain=true):Ct prog 268 [.xs 1 [],.clo (.func f) [] caps] σ (fun r σ'=>r= .xs 1 []/\σ'=σ):=by
 refine zf func268 ?_;refine zr ⟨[4,13],[],[],[],[]⟩ fun _ _ Z=>?_;simp;apply Z;refine zr ⟨[4,13],[],[],[],[]⟩ fun _ _ Z=>?_;refine zs 2 fun _ Y=>?_;simp;apply Y;refine aF fun _ Y=>?_;simp;refine cU (Mm f caps _ hcp) ?_;apply Y;simp;apply Z;apply aE;refine zr ⟨[4,13],[],[],[],[]⟩ fun _ _ Z=>?_;simp;apply Z;refine zI ?_ ?_<;>intro c1<;>try simp at c1
 refine zr ⟨[4,13],[],[],[],[]⟩ fun _ _ Z=>?_;simp;apply Z;apply aC;simp[aH]
theorem aNo(N:Nat)(l:Ls):Sc N (.xs 1 (l.map D.str)):=Sc.xs fun d hd e he=>by
 obtain⟨a,_,rfl⟩:=aX.1 hd;simp [D.cells] at he;subst he;exact Sc.v _
theorem Mj(l:Ls)(p:ByteArray->Bool)(f:FuncId)(caps:List D)(σ:List (List D))(hl:l.length<=1000000)(hcp:∀d∈caps,d.plain=true)(hcs:caps.map D.strip=caps)(hp:∀x τ,Ct prog f (D.str x::caps) τ (fun r τ'=>r= .bool (p x)/\τ'=τ)):
  Ct prog 268 [.xs 1 (l.map D.str),.clo (.func f) [] caps] σ (fun r σ'=>r= .xs 1 ((l.filter fun x=> !p x).map D.str)/\σ'=σ):=by
 by_cases hne:l= []
 .subst hne;exact Kr f caps σ hcp
 exact(Jc l p f caps σ hl hne hcp hcs hp).trim fun r σ' ⟨hr,hs⟩=>⟨σ, [[]],hs,rfl,by rw [hr];exact aNo _ _,fun n cs h=> .inl h,hr,rfl⟩
theorem Yz(l:Ls)(σ:List (List D))(hl:l.length<=1000000):Ct prog 152 [dl l] σ (fun r σ'=>vU 1 (l.map D.str) r/\σ'=σ):=by
 refine zf func152 ?_;refine zr ⟨[2],[],[],[7],[]⟩ fun _ _ Z=>?_;simp(disch:=first|omega|assumption);apply Z;apply aE;refine zr ⟨[2],[],[],[7],[]⟩ fun _ _ Z=>?_;refine zs 1 fun _ Y=>?_;simp(disch:=first|omega|assumption);apply Y;refine aF fun _ Y=>?_;simp(disch:=first|omega|assumption);refine⟨Y _ ?_,fun e1=>Y _ ?_⟩
 .simp only [eF];apply Z;refine aZ (t:=false) (by simp) (fun h=>by cases h) (fun _=>?_);apply zA;refine zr ⟨[2],[],[],[7],[]⟩ fun _ _ Z=>?_;simp(disch:=first|omega|assumption);and_intros<;>try first|omega|exact rfl
  apply Z;apply aC;simp [aH,vU]
 simp only [eF];apply Z;refine aZ (t:=true) (by simp) (fun _=>?_) (fun h=>by cases h);refine zr ⟨[2],[],[],[7],[]⟩ fun _ _ Z=>?_;simp(disch:=first|omega|assumption);apply Z;apply aC;simp [aH,vU,e1]
theorem aEs(l:Ls)(σ:List (List D))(hl:l.length<=1000000):Ct prog 152 [dl l] σ (fun r σ'=>r= .xs 1 (l.map D.str)/\σ'=σ):=(Yz l σ hl).toX fun _ _ h=>h
theorem Xt(l:Ls)(p:ByteArray->Bool)(f:FuncId)(caps:List D)(σ:List (List D))(hl:l.length<=1000000)(hcp:∀d∈caps,d.plain=true)(hcs:caps.map D.strip=caps)(hp:∀x τ,Ct prog f (D.str x::caps) τ (fun r τ'=>r= .bool (p x)/\τ'=τ)):Ct prog 256 [dl l,.clo (.func f) [] caps] σ (fun r σ'=>r= .xs 1 ((l.filter fun x=> !p x).map D.str)/\σ'=σ):=by
 refine zf func256 ?_;refine zr ⟨[4,7,8],[],[],[],[]⟩ fun _ _ Z=>?_;simp;apply Z;refine zr ⟨[4,7,8],[],[],[],[]⟩ fun _ _ Z=>?_;refine zs 1 fun _ Y=>?_;simp;apply Y;refine aF fun _ Y=>?_;simp;refine cU (aEs l _ hl) ?_;apply Y;refine zs 1 fun _ Y=>?_;simp;apply Y;refine aF fun _ Y=>?_;simp;refine cU (Mj l p f caps _ hl hcp hcs hp) ?_;apply Y;simp;apply Z;apply aC;simp[aH]
theorem aH6(x c:ByteArray)(σ:List (List D))  :Ct prog 257 [D.str x,.adr [D.str c]] σ (fun r σ'=>r= .bool (decide (x=c))/\σ'=σ):=by
 refine zf func257 ?_;refine bF fun _ _ Z=>?_;simp;apply Z;refine bF fun _ _ Z=>?_;simp;apply Z;apply aC;simp[aH]
theorem aDj(l:Ls)(c:ByteArray)(σ:List (List D))(hl:l.length<=1000000):Ct prog 230 [dl l,D.str c] σ (fun r σ'=>r= .xs 1 ((kM l c).map D.str)/\σ'=σ):=by
 refine zf func230 ?_;refine zr ⟨[4],[3],[],[],[]⟩ fun _ _ Z=>?_;simp;apply Z;refine zr ⟨[4],[3],[],[],[]⟩ fun _ _ Z=>?_;refine zs 2 fun _ Y=>?_;simp;and_intros<;>(try omega);apply Y;refine aF fun _ Y=>?_;simp;refine cU (Xt l (fun x=>decide (x=c)) 257 [.adr [D.str c]] _ hl (by simp) (by simp) (fun x τ=>aH6 x c τ)) ?_;apply Y;simp;apply Z;apply aC;simp [aH,kM]
theorem aHf(l:Ls)(c:ByteArray)(σ:List (List D))(hl:l.length<=1000000):Ct prog 230 [dl l,D.str c] σ (fun r σ'=>r=dl (kM l c)/\σ'=σ):=(aDj l c σ hl).freeze fun _ _ h=>h
end Go.Proofs.YtbgfljpnhhdkoaaGreat
