import Derived.Test.YtbgfljpnhhdkoaaGreatVmTab
import Derived.Test.YtbgfljpnhhdkoaaGreatVmZ
set_option linter.all false
set_option maxRecDepth 20000
set_option maxHeartbeats 8000000
open Go.Proofs.Tryz
namespace Go.Proofs.YtbgfljpnhhdkoaaGreat
open Go Go.Vm
variable {c s:ByteArray}{k:Nat}{p:Int->Bool}
def kW(s:ByteArray)(k:Nat):Int:=((s.data[k]?.getD 0).toNat:Int)
def Us(p:Int->Bool)(s:ByteArray):Bool:=(List.range s.size).all fun k=>p (kW s k)
theorem aGz (h:∀j,j<k->p (kW s j)=true)(hk:s.size<=k):Us p s=true:=by
 unfold Us;rw [gB];intro j hj;exact h j (by have:=fK.1 hj;omega)
theorem aJc (h:p (kW s k)=false)(hk:k<s.size):Us p s=false:=by
 rw [<- yG];intro hh;unfold Us at hh;rw [gB] at hh;have:=hh k (fK.2 hk);rw [h] at this;cases this
theorem aRy (h:Us p s=true)(k:Nat)(hk:k<s.size):p (kW s k)=true:=by
 unfold Us at h;rw [gB] at h;exact h k (fK.2 hk)
theorem Jy (h:∀j,j<k->p (kW s j)=true)(h2:p (kW s k)=true):∀j,j<k+1->p (kW s j)=true:=fun j hj=>by
 rcases Pk.1 hj with h1 | rfl
 .exact h j h1
 exact h2
def Ml(x0:Int)(x1:Int)(x2:Int):Int:=max x1 (min x0 x2)
theorem aN6(x0:Int)(x1:Int)(x2:Int)(σ:List (List D))  :Ct prog 131 [.v (.int .i64 x0),.v (.int .i64 x1),.v (.int .i64 x2)] σ (fun r σ'=>r= .v (.int .i64 (Ml x0 x1 x2))/\σ'=σ):=by
 refine zf func131 ?_;refine aZ fun all K Z=>?_;simp;apply Z;clear Z K all;refine aZ fun all K Z=>?_;simp;and_intros<;>(try omega);apply Z;clear Z K all;apply aC;first | (simp [aI,Ml];done) | (simp [aI,Ml];done) | (simp [aI];unfold Ml;(repeat' split) <;> first | (exfalso;omega) | (simp_all;done)) | (simp [aI,Ml, *];done) | (simp_all [aI,Ml];done) | (simp_all [aI,Ml];omega) | (simp [aI,Ml] <;> split <;> omega)
def An(x0:Int):Int:=max (-2147483648) (min x0 2147483647)
theorem Sa(x0:Int)(σ:List (List D))  :Ct prog 238 [.v (.int .i64 x0)] σ (fun r σ'=>r= .v (.int .i64 (An x0))/\σ'=σ):=by
 refine zf func238 ?_;refine aZ fun all K Z=>?_;simp;apply Z;clear Z K all;refine aZ fun all K Z=>?_;simp;and_intros<;>(try omega);apply Z;clear Z K all;apply aC;first | (simp [aI,An];done) | (simp [aI,An];done) | (simp [aI];unfold An;(repeat' split) <;> first | (exfalso;omega) | (simp_all;done)) | (simp [aI,An, *];done) | (simp_all [aI,An];done) | (simp_all [aI,An];omega) | (simp [aI,An] <;> split <;> omega)
def rP(x0:Int):Int:=if x0 > 2147483647 then 2147483647
 else if x0<(-2147483648)then(-2147483648)
  else x0
theorem aOx(x0:Int)(σ:List (List D))  :Ct prog 74 [.v (.int .i64 x0)] σ (fun r σ'=>r= .v (.int .i64 (rP x0))/\σ'=σ):=by
 refine zf func74 ?_;refine aZ fun all K Z=>?_;simp;apply Z;clear Z K all;apply aF;refine aZ fun all K Z=>?_;simp;apply Z;clear Z K all;refine zI ?_ ?_<;>intro c1<;>try simp at c1
 .all_goals try (exfalso;omega)
  all_goals
   refine aZ fun all K Z=>?_;simp;apply Z;clear Z K all;apply aC;first | (simp [aI,rP,c1];done) | (simp [aI,rP];done) | (simp [aI];unfold rP;(repeat' split) <;> first | (exfalso;omega) | (simp_all;done)) | (simp [aI,rP, *];done) | (simp_all [aI,rP];done) | (simp_all [aI,rP];omega) | (simp [aI,rP] <;> split <;> omega)
 all_goals try (exfalso;omega)
 all_goals
  apply zA;apply aF;refine aZ fun all K Z=>?_;simp;apply Z;clear Z K all;refine zI ?_ ?_<;>intro c2<;>try simp at c2
  .all_goals try (exfalso;omega)
   all_goals
    refine aZ fun all K Z=>?_;simp;apply Z;clear Z K all;apply aC;first | (simp [aI,rP,c1,c2];done) | (simp [aI,rP];done) | (simp [aI];unfold rP;(repeat' split) <;> first | (exfalso;omega) | (simp_all;done)) | (simp [aI,rP, *];done) | (simp_all [aI,rP];done) | (simp_all [aI,rP];omega) | (simp [aI,rP] <;> split <;> omega)
  all_goals try (exfalso;omega)
  all_goals
   apply zA;refine aZ fun all K Z=>?_;simp;apply Z;clear Z K all;apply aC;first | (simp [aI,rP,c1,c2];done) | (simp [aI,rP];done) | (simp [aI];unfold rP;(repeat' split) <;> first | (exfalso;omega) | (simp_all;done)) | (simp [aI,rP, *];done) | (simp_all [aI,rP];done) | (simp_all [aI,rP];omega) | (simp [aI,rP] <;> split <;> omega)
def lE(x0:Int):Bool:=if x0>=97 then decide (x0<=122)
 else false
theorem Pa(x0:Int)(σ:List (List D))  :Ct prog 228 [.v (.int .u8 x0)] σ (fun r σ'=>r= .v (.bool (lE x0))/\σ'=σ):=by
 refine zf func228 ?_;refine aZ fun all K Z=>?_;simp;apply Z;clear Z K all;refine lS ⟨[],[],[],[],[]⟩ fun all hall K Z=>?_;have ga2:aN all 2=some 5:=hall 2;clear hall;refine zs 3 fun K' Y=>?_;simp[ga2];apply Y;clear Y K';refine zb 5 ?_ ?_<;>intro g1<;>try simp at g1
 .all_goals try (exfalso;omega)
  all_goals
   simp[ga2];apply Z;clear Z K ga2 all;apply aC;first | (simp [aI,lE,g1];done) | (simp [aI,lE];done) | (simp [aI];unfold lE;(repeat' split) <;> first | (exfalso;omega) | (simp_all;done)) | (simp [aI,lE, *];done) | (simp_all [aI,lE];done) | (simp_all [aI,lE];omega) | (simp [aI,lE] <;> split <;> omega)
 all_goals try (exfalso;omega)
 all_goals
  simp[ga2];apply Z;clear Z K ga2 all;apply aC;first | (simp [aI,lE,g1];done) | (simp [aI,lE];done) | (simp [aI];unfold lE;(repeat' split) <;> first | (exfalso;omega) | (simp_all;done)) | (simp [aI,lE, *];done) | (simp_all [aI,lE];done) | (simp_all [aI,lE];omega) | (simp [aI,lE] <;> split <;> omega)
def qU(x0:Int):Bool:=if x0>=48 then decide (x0<=57)
 else false
theorem aK5(x0:Int)(σ:List (List D))  :Ct prog 267 [.v (.int .u8 x0)] σ (fun r σ'=>r= .v (.bool (qU x0))/\σ'=σ):=by
 refine zf func267 ?_;refine aZ fun all K Z=>?_;simp;apply Z;clear Z K all;refine lS ⟨[],[],[],[],[]⟩ fun all hall K Z=>?_;have ga2:aN all 2=some 5:=hall 2;clear hall;refine zs 3 fun K' Y=>?_;simp[ga2];apply Y;clear Y K';refine zb 5 ?_ ?_<;>intro g1<;>try simp at g1
 .all_goals try (exfalso;omega)
  all_goals
   simp[ga2];apply Z;clear Z K ga2 all;apply aC;first | (simp [aI,qU,g1];done) | (simp [aI,qU];done) | (simp [aI];unfold qU;(repeat' split) <;> first | (exfalso;omega) | (simp_all;done)) | (simp [aI,qU, *];done) | (simp_all [aI,qU];done) | (simp_all [aI,qU];omega) | (simp [aI,qU] <;> split <;> omega)
 all_goals try (exfalso;omega)
 all_goals
  simp[ga2];apply Z;clear Z K ga2 all;apply aC;first | (simp [aI,qU,g1];done) | (simp [aI,qU];done) | (simp [aI];unfold qU;(repeat' split) <;> first | (exfalso;omega) | (simp_all;done)) | (simp [aI,qU, *];done) | (simp_all [aI,qU];done) | (simp_all [aI,qU];omega) | (simp [aI,qU] <;> split <;> omega)
def plain(x0:Int):Bool:=if(lE x0)=true then true
 else if(qU x0)=true then true
  else decide (x0=45)
theorem aH3(x0:Int)(σ:List (List D))  :Ct prog 254 [.v (.int .u8 x0)] σ (fun r σ'=>r= .v (.bool (plain x0))/\σ'=σ):=by
 refine zf func254 ?_;refine aZ fun all K Z=>?_;simp;apply Z;clear Z K all;refine lS ⟨[],[],[],[],[]⟩ fun all hall K Z=>?_;have ga2:aN all 2=some 5:=hall 2;have ga6:aN all 6=some 9:=hall 6;clear hall;refine zs 1 fun K' Y=>?_;simp[ga2,ga6];apply Y;clear Y K';refine aE fun K' Y=>?_;simp[ga2,ga6];refine cH (Pa x0 _) ?_;apply Y;clear Y K';refine zs 1 fun K' Y=>?_;simp[ga2,ga6];apply Y;clear Y K';refine zb 5 ?_ ?_<;>intro g1<;>try simp at g1
 .all_goals try (exfalso;omega)
  all_goals
   refine zs 4 fun K' Y=>?_;simp[ga2,ga6];apply Y;clear Y K';simp[ga2,ga6];apply Z;clear Z K ga2 ga6 all;apply aC;first | (simp [aI,plain,g1];done) | (simp [aI,plain];done) | (simp [aI];unfold plain;(repeat' split) <;> first | (exfalso;omega) | (simp_all;done)) | (simp [aI,plain, *];done) | (simp_all [aI,plain];done) | (simp_all [aI,plain];omega) | (simp [aI,plain] <;> split <;> omega)
 all_goals try (exfalso;omega)
 all_goals
  refine zs 1 fun K' Y=>?_;simp[ga2,ga6];apply Y;clear Y K';refine zg ga2 fun K' Y=>?_;simp[ga2,ga6];refine cH (aK5 x0 _) ?_;apply Y;clear Y K';refine zs 2 fun K' Y=>?_;simp[ga2,ga6];apply Y;clear Y K';refine zb 9 ?_ ?_<;>intro g2<;>try simp at g2
  .all_goals try (exfalso;omega)
   all_goals
    simp[ga2,ga6];apply Z;clear Z K ga2 ga6 all;apply aC;first | (simp [aI,plain,g1,g2];done) | (simp [aI,plain];done) | (simp [aI];unfold plain;(repeat' split) <;> first | (exfalso;omega) | (simp_all;done)) | (simp [aI,plain, *];done) | (simp_all [aI,plain];done) | (simp_all [aI,plain];omega) | (simp [aI,plain] <;> split <;> omega)
  all_goals try (exfalso;omega)
  all_goals
   simp[ga2,ga6];apply Z;clear Z K ga2 ga6 all;apply aC;first | (simp [aI,plain,g1,g2];done) | (simp [aI,plain];done) | (simp [aI];unfold plain;(repeat' split) <;> first | (exfalso;omega) | (simp_all;done)) | (simp [aI,plain, *];done) | (simp_all [aI,plain];done) | (simp_all [aI,plain];omega) | (simp [aI,plain] <;> split <;> omega)
def dK (x0 : Int) : Bool := if x0 >= 97 then if x0 <= 122 then true
  else if x0>=48 then if x0<=57 then true
    else decide (x0=45)
   else decide (x0=45)
 else if x0>=48 then if x0<=57 then true
   else decide (x0=45)
  else decide (x0=45)
theorem aFo (x0 : Int) (σ : List (List D))  : Ct prog 216 [.v (.int .u8 x0)] σ (fun r σ' => r = .v (.bool (dK x0)) /\ σ' = σ) := by
 refine zf func216 ?_;refine aZ fun all K Z=>?_;simp;apply Z;clear Z K all;refine lS ⟨[],[],[],[],[]⟩ fun all hall K Z=>?_;have ga2:aN all 2=some 5:=hall 2;have ga6:aN all 6=some 9:=hall 6;have ga9:aN all 9=some 12:=hall 9;have ga14:aN all 14=some 17:=hall 14;clear hall;refine zs 3 fun K' Y=>?_;simp[ga2,ga6,ga9,ga14];apply Y;clear Y K';refine zb 5 ?_ ?_<;>intro g1<;>try simp at g1
 .all_goals try (exfalso;omega)
  all_goals
   refine zs 4 fun K' Y=>?_;simp[ga2,ga6,ga9,ga14];apply Y;clear Y K';refine zb 9 ?_ ?_<;>intro g2<;>try simp at g2
   .all_goals try (exfalso;omega)
    all_goals
     refine zs 8 fun K' Y=>?_;simp[ga2,ga6,ga9,ga14];apply Y;clear Y K';simp[ga2,ga6,ga9,ga14];apply Z;clear Z K ga2 ga6 ga9 ga14 all;apply aC;first | (simp [aI,dK,g1,g2];done) | (simp [aI,dK];done) | (simp [aI];unfold dK;(repeat' split) <;> first | (exfalso;omega) | (simp_all;done)) | (simp [aI,dK, *];done) | (simp_all [aI,dK];done) | (simp_all [aI,dK];omega) | (simp [aI,dK] <;> split <;> omega)
   all_goals try (exfalso;omega)
   all_goals
    refine zs 3 fun K' Y=>?_;simp[ga2,ga6,ga9,ga14];apply Y;clear Y K';refine zb 12 ?_ ?_<;>intro g3<;>try simp at g3
    .all_goals try (exfalso;omega)
     all_goals
      refine zs 5 fun K' Y=>?_;simp[ga2,ga6,ga9,ga14];apply Y;clear Y K';refine zb 17 ?_ ?_<;>intro g4<;>try simp at g4
      .all_goals try (exfalso;omega)
       all_goals
        simp[ga2,ga6,ga9,ga14];apply Z;clear Z K ga2 ga6 ga9 ga14 all;apply aC;first | (simp [aI,dK,g1,g2,g3,g4];done) | (simp [aI,dK];done) | (simp [aI];unfold dK;(repeat' split) <;> first | (exfalso;omega) | (simp_all;done)) | (simp [aI,dK, *];done) | (simp_all [aI,dK];done) | (simp_all [aI,dK];omega) | (simp [aI,dK] <;> split <;> omega)
      all_goals try (exfalso;omega)
      all_goals
       simp[ga2,ga6,ga9,ga14];apply Z;clear Z K ga2 ga6 ga9 ga14 all;apply aC;first | (simp [aI,dK,g1,g2,g3,g4];done) | (simp [aI,dK];done) | (simp [aI];unfold dK;(repeat' split) <;> first | (exfalso;omega) | (simp_all;done)) | (simp [aI,dK, *];done) | (simp_all [aI,dK];done) | (simp_all [aI,dK];omega) | (simp [aI,dK] <;> split <;> omega)
    all_goals try (exfalso;omega)
    all_goals
     refine zs 5 fun K' Y=>?_;simp[ga2,ga6,ga9,ga14];apply Y;clear Y K';simp[ga2,ga6,ga9,ga14];apply Z;clear Z K ga2 ga6 ga9 ga14 all;apply aC;first | (simp [aI,dK,g1,g2,g3];done) | (simp [aI,dK];done) | (simp [aI];unfold dK;(repeat' split) <;> first | (exfalso;omega) | (simp_all;done)) | (simp [aI,dK, *];done) | (simp_all [aI,dK];done) | (simp_all [aI,dK];omega) | (simp [aI,dK] <;> split <;> omega)
 all_goals try (exfalso;omega)
 all_goals
  refine zs 4 fun K' Y=>?_;simp[ga2,ga6,ga9,ga14];apply Y;clear Y K';refine zs 3 fun K' Y=>?_;simp[ga2,ga6,ga9,ga14];apply Y;clear Y K';refine zb 12 ?_ ?_<;>intro g5<;>try simp at g5
  .all_goals try (exfalso;omega)
   all_goals
    refine zs 5 fun K' Y=>?_;simp[ga2,ga6,ga9,ga14];apply Y;clear Y K';refine zb 17 ?_ ?_<;>intro g6<;>try simp at g6
    .all_goals try (exfalso;omega)
     all_goals
      simp[ga2,ga6,ga9,ga14];apply Z;clear Z K ga2 ga6 ga9 ga14 all;apply aC;first | (simp [aI,dK,g1,g5,g6];done) | (simp [aI,dK];done) | (simp [aI];unfold dK;(repeat' split) <;> first | (exfalso;omega) | (simp_all;done)) | (simp [aI,dK, *];done) | (simp_all [aI,dK];done) | (simp_all [aI,dK];omega) | (simp [aI,dK] <;> split <;> omega)
    all_goals try (exfalso;omega)
    all_goals
     simp[ga2,ga6,ga9,ga14];apply Z;clear Z K ga2 ga6 ga9 ga14 all;apply aC;first | (simp [aI,dK,g1,g5,g6];done) | (simp [aI,dK];done) | (simp [aI];unfold dK;(repeat' split) <;> first | (exfalso;omega) | (simp_all;done)) | (simp [aI,dK, *];done) | (simp_all [aI,dK];done) | (simp_all [aI,dK];omega) | (simp [aI,dK] <;> split <;> omega)
  all_goals try (exfalso;omega)
  all_goals
   refine zs 5 fun K' Y=>?_;simp[ga2,ga6,ga9,ga14];apply Y;clear Y K';simp[ga2,ga6,ga9,ga14];apply Z;clear Z K ga2 ga6 ga9 ga14 all;apply aC;first | (simp [aI,dK,g1,g5];done) | (simp [aI,dK];done) | (simp [aI];unfold dK;(repeat' split) <;> first | (exfalso;omega) | (simp_all;done)) | (simp [aI,dK, *];done) | (simp_all [aI,dK];done) | (simp_all [aI,dK];omega) | (simp [aI,dK] <;> split <;> omega)
theorem aTu(x:Int):rP x=An x:=by
 unfold rP An
 repeat' split
 all_goals first | rfl | omega | skip
theorem Xh(x:Int):lE x=true↔97<=x/\x<=122:=by unfold lE;simp
theorem Oa(x:Int):plain x=true↔(97<=x/\x<=122)\/(48<=x/\x<=57)\/x=45:=by
 unfold plain lE qU;repeat' split
 all_goals simp_all
 all_goals omega
theorem Ye(x:Int):dK x=true↔(97<=x/\x<=122)\/(48<=x/\x<=57)\/x=45:=by
 unfold dK;repeat' split
 all_goals simp_all
 all_goals omega
theorem Of(x:Int):dK x=plain x:=by rw [jA,Ye,Oa]
def Cu(s:ByteArray):Bool:=decide (1<=s.size/\s.size<=16) && Us plain s
def dP(s:ByteArray):Bool:=Cu s && decide (97<=kW s 0)
theorem Tp(s:ByteArray):(s=⟨#[]⟩)↔s.size=0:=by
 constructor
 .rintro rfl;rfl
 intro h;cases s with
 | mk d=>
  have:d.size=0:=h;have:d=#[]:=by simpa using this
  rw [this]
theorem aOt(s:ByteArray)(p:Int->Bool)(f:FuncId)(σ:List (List D))(hs:s.size<=9223372036854775807)(hp:∀x τ,Ct prog f [.v (.int .u8 x)] τ (fun r τ'=>r= .bool (p x)/\τ'=τ)):Ct prog 253 [D.str s,.clo (.func f) [] []] σ (fun r σ'=>r= .bool (Us p s)/\σ'=σ):=by
 refine zf func253 ?_;refine aZ fun _ _ Z=>?_;simp;apply Z;apply aF;refine aZ fun _ _ Z=>?_;simp;and_intros<;>(try omega);apply Z;apply aR;refine zk [0,1,4,7,8] ?_;refine aY (fun(k:Nat)=> [(8,.d (.v (.int .i64 (k:Int)))),(5,.d (.any))]) [4,5,8,9,10,11,12,13,14,15,16,17] (fun(k:Nat)=>k<=s.size/\∀j,j<k->p (kW s j)=true) (fun(k:Nat)=>s.size - k) (0) (by simp <;> rfl) ?_ ?_ ?_
 .simp
 .simp
 rintro k ⟨hk,hh⟩;simp only [aQ,aP];refine aZ fun _ _ Z=>?_;simp;apply Z;apply aF;refine zI ?_ ?_<;>intro c1<;>try simp at c1
 .apply jY;refine aZ fun _ _ Z=>?_;simp;apply Z;refine aZ fun _ _ Z=>?_;refine zs 4 fun _ Y=>?_;simp;and_intros<;>(try omega);apply Y;refine aE fun _ Y=>?_;simp;refine cH (hp (kW s k) _) ?_;apply Y;simp;apply Z;refine zI ?_ ?_<;>intro c2<;>try simp at c2
  .refine zk [0,1,5,7,8] ?_;refine aZ fun _ _ Z=>?_;simp;apply Z;apply aC;simp [aI];exact aJc (k:=k) (by simpa [kW] using c2) (by omega)
  apply nI;refine zk [0,1,5,7,8] ?_;refine pB fun _ _ Z=>?_;simp;and_intros<;>(try omega);apply Z;refine zq (k+1) ?_ ?_ ?_
  .exact⟨by omega,Jy hh (by simpa [kW] using c2)⟩
  .try dsimp only
   omega
  simp
 apply zE;refine aZ fun _ _ Z=>?_;simp;apply Z;apply aC;simp [aI];exact aGz hh (by omega)
theorem aQm(s:ByteArray)(σ:List (List D))(hs:s.size<=9223372036854775807):Ct prog 227 [D.str s] σ (fun r σ'=>r= .bool (Cu s)/\σ'=σ):=by
 refine zf func227 ?_;refine aZ fun _ _ Z=>?_;simp;apply Z;refine lS ⟨[],[],[],[],[]⟩ fun all hall _ Z=>?_;have ga2:aN all 2=some 5:=hall 2;have ga7:aN all 7=some 10:=hall 7;refine zs 3 fun _ Y=>?_;simp[ga2,ga7];apply Y;refine zb 5 ?_ ?_<;>intro g1<;>try simp at g1
 .refine zs 5 fun _ Y=>?_;simp[ga2,ga7];and_intros<;>(try omega);apply Y;refine zb 10 ?_ ?_<;>intro g2<;>try simp at g2
  .refine zs 1 fun _ Y=>?_;simp[ga2,ga7];apply Y;refine zg ga7 fun _ Y=>?_;simp[ga2,ga7];refine cH (aOt s plain 254 _ hs (fun x τ=>aH3 x τ)) ?_;apply Y;simp[ga2,ga7];apply Z;apply aC;simp [aI,Cu];rw [Tp] at g1
   intros;omega
  simp[ga2,ga7];apply Z;apply aC;simp [aI,Cu]
  intros;omega
 refine zs 5 fun _ Y=>?_;simp[ga2,ga7];apply Y;simp[ga2,ga7];apply Z;apply aC;simp [aI,Cu];rw [Tp] at g1
 intros;omega
theorem Lf (h:Cu s=true):0<s.size/\s.size<=16:=by
 unfold Cu at h;simp at h;omega
theorem Zj (h:Cu s=true):lE (kW s 0)=decide (97<=kW s 0):=by
 have hp:=(Lf h).1;unfold Cu at h;rw [gO] at h;have:=aRy h.2 0 hp;rw [Oa] at this;rw [jA,Xh,fN];omega
theorem uI(s:ByteArray)(σ:List (List D))(hs:s.size<=9223372036854775807):Ct prog 193 [D.str s] σ (fun r σ'=>r= .bool (dP s)/\σ'=σ):=by
 refine zf func193 ?_;refine aZ fun _ _ Z=>?_;simp;apply Z;refine lS ⟨[],[],[],[],[]⟩ fun all hall _ Z=>?_;have ga2:aN all 2=some 5:=hall 2;refine zs 1 fun _ Y=>?_;simp[ga2];apply Y;refine aE fun _ Y=>?_;simp[ga2];refine cH (aQm s _ hs) ?_;apply Y;refine zs 1 fun _ Y=>?_;simp[ga2];apply Y;refine zb 5 ?_ ?_<;>intro g1<;>try simp at g1
 .have hpos:=Lf g1;refine zs 2 fun _ Y=>?_;simp[ga2];and_intros<;>(try omega);apply Y;refine zg ga2 fun _ Y=>?_;simp[ga2];refine cH (Pa (kW s 0) _) ?_;apply Y;simp[ga2];apply Z;apply aC;simp [aI,dP,g1,Zj g1]
 simp[ga2];apply Z;apply aC;simp [aI,dP,g1]
theorem aB0(s:ByteArray)(σ:List (List D))(hs:s.size<=9223372036854775807):Ct prog 162 [D.str s] σ (fun r σ'=>r= .bool (Cu s)/\σ'=σ):=by
 refine zf func162 ?_;refine aZ fun _ _ Z=>?_;simp;apply Z;apply aF;refine aZ fun _ _ Z=>?_;simp;apply Z;apply aR;refine zk [0,2,3] ?_;refine aY (fun(k:Nat)=> [(3,.d (.v (.int .i64 (k:Int))))]) [2,3,4,5,6,7,8,9,10,11,12,13,14] (fun(k:Nat)=>k<=s.size/\∀j,j<k->plain (kW s j)=true) (fun(k:Nat)=>s.size - k) (0) (by simp <;> rfl) ?_ ?_ ?_
 .simp
 .simp
 rintro k ⟨hk,hh⟩;simp only [aQ,aP];apply aF;refine aZ fun _ _ Z=>?_;simp;and_intros<;>(try omega);apply Z;refine zI ?_ ?_<;>intro c1<;>try simp at c1
 .apply jY;refine aZ fun _ _ Z=>?_;refine zs 3 fun _ Y=>?_;simp;and_intros<;>(try omega);apply Y;refine aE fun _ Y=>?_;simp;refine cH (aFo (kW s k) _) ?_;apply Y;simp;apply Z;refine zI ?_ ?_<;>intro c2<;>try simp at c2
  .refine aZ fun _ _ Z=>?_;simp;apply Z;apply aC;simp [aI,Cu];intro _ _;exact aJc (k:=k) (by rw [<- Of];simpa [kW] using c2) (by omega)
  apply nI;refine pB fun _ _ Z=>?_;simp;and_intros<;>(try omega);apply Z;refine zq (k+1) ?_ ?_ ?_
  .exact⟨by omega,Jy hh (by rw [<- Of];simpa [kW] using c2)⟩
  .try dsimp only
   omega
  simp
 apply zE;refine lS ⟨[],[],[],[],[]⟩ fun all hall _ Z=>?_;have ga3:aN all 3=some 18:=hall 3;refine zs 4 fun _ Y=>?_;simp[ga3];and_intros<;>(try omega);apply Y;refine zb 18 ?_ ?_<;>intro g3<;>try simp at g3
 .simp[ga3];and_intros<;>(try omega);apply Z;apply aC;simp [aI,Cu];have:=aGz (p:=plain) (s:=s) hh (by omega);simp [this];rw [jA];simp;omega
 simp[ga3];apply Z;apply aC;simp [aI,Cu]
 intros;omega
theorem wE(s:ByteArray)(σ:List (List D))(hs:s.size<=9223372036854775807):Ct prog 71 [D.str s] σ (fun r σ'=>r= .bool (dP s)/\σ'=σ):=by
 refine zf func71 ?_;refine aZ fun _ _ Z=>?_;simp;apply Z;refine lS ⟨[],[],[],[],[]⟩ fun all hall _ Z=>?_;have ga2:aN all 2=some 5:=hall 2;refine zs 1 fun _ Y=>?_;simp[ga2];apply Y;refine aE fun _ Y=>?_;simp[ga2];refine cH (aB0 s _ hs) ?_;apply Y;refine zs 1 fun _ Y=>?_;simp[ga2];apply Y;refine zb 5 ?_ ?_<;>intro g1<;>try simp at g1
 .have hpos:=Lf g1;simp[ga2];and_intros<;>(try omega);apply Z;apply aC;simp [aI,dP,g1,kW];rfl
 simp[ga2];apply Z;apply aC;simp [aI,dP,g1]
def tN(n:Nat)(s:ByteArray):ByteArray:=if n<s.size then s.extract 0 n else s
theorem sJ(n:Nat)(s:ByteArray):(tN n s).size<=n:=by
 unfold tN;split
 .simp;omega
 omega
theorem Ax(s:ByteArray)(n:Nat)(σ:List (List D))(hn:n<=1000000):Ct prog 20 [D.str s,D.int n] σ (fun r σ'=>r= .v (.string (tN n s))/\σ'=σ):=by
 refine zf func20 ?_;refine aZ fun _ _ Z=>?_;simp;apply Z;apply aF;refine aZ fun _ _ Z=>?_;simp;and_intros<;>(try omega);apply Z;refine zI ?_ ?_<;>intro c1<;>try simp at c1
 .refine aZ fun _ _ Z=>?_;simp;and_intros<;>(try omega);apply Z;apply aC;simp [aI,tN,c1]
 apply zA;refine aZ fun _ _ Z=>?_;simp;apply Z;apply aC;simp [aI,tN];intro h;omega
abbrev Ls:=List ByteArray
@[simp] abbrev dl(l:Ls):D:= .sl false (l.map D.str)
@[simp] abbrev dlo(l:Ls):D:= .sl true (l.map D.str)
def pP(c:ByteArray)(l:Ls):Bool:=l.any fun x=>decide (x=c)
theorem Bb(c x:ByteArray)(l:Ls):pP c (l++ [x])=(pP c l || decide (x=c)):=by simp [pP]
theorem Kl {l:Ls} (h:k<l.length)(e:l[k]=c):pP c l=true:=by
 simp only [pP,oU,fN];exact⟨l[k],cB h,e⟩
def rC(l:Ls)(c:ByteArray):Ls:=if pP c l then l else l++ [c]
theorem aKu(l:Ls)(c:ByteArray):(rC l c).length<=l.length+1:=by
 unfold rC;split <;> simp
def Xw(c:ByteArray)(l:Ls):Int:=match l.findIdx? (fun x=>decide (x=c))with | some k=>k | none=> -1
theorem aP9 {l:Ls} (h:k<l.length)(hh:pP c (l.take k)=false)(e:c=l[k]):Xw c l=k:=by
 have:l.findIdx? (fun x=>decide (x=c))=some k:=by
  rw [qH];refine⟨h,by simp [e],fun j hj=>?_⟩;simp only [pP,pY,fN] at hh;have:=hh ((l.take k)[j]'(by simp;omega)) (cB _);simpa using this
 simp [Xw,this]
theorem aFa {l:Ls} (h:pP c l=false):Xw c l= -1:=by
 have:l.findIdx? (fun x=>decide (x=c))=none:=by
  rw [qF];simpa [pP] using h
 simp [Xw,this]
theorem aKf(c:ByteArray)(l:Ls):(0<=Xw c l)↔pP c l=true:=by
 unfold Xw;split
 .rename_i k h;rw [qH] at h;obtain⟨hk,he,_⟩:=h;simp only [fN] at he;simp [Kl hk he]
 rename_i h;rw [qF] at h;simp [pP];intro e;have:=h c e;simp at this
def kO(l:Ls)(c:ByteArray):Ls:=l.filter fun x=> !decide (x=c)
theorem vC(l:Ls)(x c:ByteArray):kO (l++ [x]) c=kO l c++if x=c then [] else [x]:=by
 simp [kO,fU,gN]
theorem Jq(l:Ls)(c:ByteArray)(k:Nat)(h:k<l.length):kO (l.take (k+1)) c=kO (l.take k) c++if l[k]=c then [] else [l[k]]:=by rw [bN l k h,vC]
theorem Pn(l:Ls)(c:ByteArray):(kO l c).length<=l.length:=jD _ _
theorem Sf(l:Ls)(c:ByteArray)(σ:List (List D))(hl:l.length<=9223372036854775807):Ct prog 77 [dl l,D.str c] σ (fun r σ'=>r= .bool (pP c l)/\σ'=σ):=by
 refine zf func77 ?_;refine aZ fun _ _ Z=>?_;simp(disch:=omega);apply Z;apply aF;refine aZ fun _ _ Z=>?_;simp(disch:=omega);and_intros<;>(try omega);apply Z;apply aR;refine zk [1,4,7,8,9] ?_;refine aY (fun(k:Nat)=> [(9,.d (.int k))]) [4,6,9,10,11,12,13,14,15,16] (fun(k:Nat)=>k<=l.length/\pP c (l.take k)=false) (fun(k:Nat)=>l.length - k) (0) (by simp <;> rfl) ?_ ?_ ?_
 .simp
 .simp [pP]
 rintro k ⟨hk,hh⟩;simp only [aQ,aP];refine aZ fun _ _ Z=>?_;simp(disch:=omega);apply Z;apply aF;refine zI ?_ ?_<;>intro c1<;>try simp at c1
 .apply jY;refine aZ fun _ _ Z=>?_;simp(disch:=omega);and_intros<;>(try omega);apply Z;refine aZ fun _ _ Z=>?_;simp(disch:=omega);apply Z;refine zI ?_ ?_<;>intro c2<;>try simp at c2
  .refine aZ fun _ _ Z=>?_;simp(disch:=omega);apply Z;apply aC;simp [aI];exact Kl c1 c2
  apply nI;refine pB fun _ _ Z=>?_;simp(disch:=omega);and_intros<;>(try omega);apply Z;refine zq (k+1) ?_ ?_ ?_
  .exact⟨by omega,by rw [bN l k (by omega),Bb,hh];simp [*]⟩
  .try dsimp only
   omega
  simp(disch:=omega)
 apply zE;refine aZ fun _ _ Z=>?_;simp(disch:=omega);apply Z;apply aC;simp [aI];rw [bX (by omega)] at hh;exact hh
@[simp] abbrev q25_1:Cfg:=⟨[4,5,18,23],[],[],[],[]⟩
theorem aJh(l:Ls)(c:ByteArray)(σ:List (List D))(hl:l.length<=1000000):Ct prog 78 [dl l,D.str c] σ (fun r σ'=>r=dlo (kO l c)/\σ'=σ):=by
 refine zf func78 ?_;refine zr q25_1 fun _ _ Z=>?_;simp(disch:=omega);apply Z;refine zr q25_1 fun _ _ Z=>?_;simp(disch:=omega);and_intros<;>(try omega);apply Z;apply aF;refine zr q25_1 fun _ _ Z=>?_;simp(disch:=omega);and_intros<;>(try omega);apply Z;apply aR;refine zk [1,4,5,9,10,11] ?_;refine aY (fun(k:Nat)=> [(11,.d (.int k)),(5,.d (dlo (kO (l.take k) c)))]) [5,7,11,12,13,14,15,16,17,18,19,20,21,22] (fun(k:Nat)=>k<=l.length) (fun(k:Nat)=>l.length - k) (0) (by simp <;> rfl) ?_ ?_ ?_
 .simp [kO]
 .simp
 rintro k hk;simp only [aQ,aP];have hcl:=Pn (l.take k) c;simp only [bE] at hcl;refine zr q25_1 fun _ _ Z=>?_;simp(disch:=omega);apply Z;apply aF;refine zI ?_ ?_<;>intro c1<;>try simp at c1
 .apply jY;refine zr q25_1 fun _ _ Z=>?_;simp(disch:=omega);and_intros<;>(try omega);apply Z;refine zr q25_1 fun _ _ Z=>?_;simp(disch:=omega);apply Z;refine zI ?_ ?_<;>intro c2<;>try simp at c2
  .refine zk [1,4,5,7,9,10,11] ?_;refine zt q25_1 fun _ _ Z=>?_;simp(disch:=omega);and_intros<;>(try omega);apply Z;apply zB;refine zk [1,4,5,9,10,11] ?_;refine zt q25_1 fun _ _ Z=>?_;simp(disch:=omega);and_intros<;>(try omega);apply Z;refine zq (k+1) ?_ ?_ ?_
   .omega
   .try dsimp only
    omega
   simp(disch:=omega)[Jq,c2]
  apply nI;refine zk [1,4,5,9,10,11] ?_;refine zt q25_1 fun _ _ Z=>?_;simp(disch:=omega);and_intros<;>(try omega);apply Z;refine zq (k+1) ?_ ?_ ?_
  .omega
  .try dsimp only
   omega
  simp(disch:=omega)[Jq,c2]
 apply zE;refine zr q25_1 fun _ _ Z=>?_;simp(disch:=omega);apply Z;apply aC;simp [aI];rw [bX (by omega)]
theorem aIg(l:Ls)(c:ByteArray)(σ:List (List D))(hl:l.length<=9223372036854775807):Ct prog 255 [dl l,D.str c] σ (fun r σ'=>r= .int (Xw c l)/\σ'=σ):=by
 refine zf func255 ?_;refine aZ fun _ _ Z=>?_;simp(disch:=omega);apply Z;apply aF;refine aZ fun _ _ Z=>?_;simp(disch:=omega);and_intros<;>(try omega);apply Z;apply aR;refine zk [0,1,4,7,8] ?_;refine aY (fun(k:Nat)=> [(8,.d (.int k))]) [4,5,8,9,10,11,12,13,14,15,16,17,18] (fun(k:Nat)=>k<=l.length/\pP c (l.take k)=false) (fun(k:Nat)=>l.length - k) (0) (by simp <;> rfl) ?_ ?_ ?_
 .simp
 .simp [pP]
 rintro k ⟨hk,hh⟩;simp only [aQ,aP];refine aZ fun _ _ Z=>?_;simp(disch:=omega);apply Z;apply aF;refine zI ?_ ?_<;>intro c1<;>try simp at c1
 .apply jY;refine aZ fun _ _ Z=>?_;simp(disch:=omega);apply Z;refine aZ fun _ _ Z=>?_;simp(disch:=omega);and_intros<;>(try omega);apply Z;refine zI ?_ ?_<;>intro c2<;>try simp at c2
  .refine zk [0,1,5,7,8] ?_;refine aZ fun _ _ Z=>?_;simp(disch:=omega);apply Z;apply aC;simp [aI];exact(aP9 c1 hh c2).symm
  apply nI;refine zk [0,1,7,8] ?_;refine pB fun _ _ Z=>?_;simp(disch:=omega);and_intros<;>(try omega);apply Z;refine zq (k+1) ?_ ?_ ?_
  .exact⟨by omega,by rw [bN l k (by omega),Bb,hh];simp;exact fun e=>c2 e.symm⟩
  .try dsimp only
   omega
  simp(disch:=omega)
 apply zE;refine aZ fun _ _ Z=>?_;simp(disch:=omega);apply Z;apply aC;simp [aI];rw [bX (by omega)] at hh;exact(aFa hh).symm
theorem Ty(l:Ls)(c:ByteArray)(σ:List (List D))(hl:l.length<=9223372036854775807):Ct prog 229 [dl l,D.str c] σ (fun r σ'=>r= .bool (pP c l)/\σ'=σ):=by
 refine zf func229 ?_;refine aZ fun _ _ Z=>?_;simp;apply Z;refine aZ fun _ _ Z=>?_;refine zs 2 fun _ Y=>?_;simp;apply Y;refine aE fun _ Y=>?_;simp;refine cH (aIg _ _ _ hl) ?_;apply Y;simp;apply Z;apply aC;simp [aI,aKf]
theorem yT(l:Ls)(c:ByteArray)(σ:List (List D))(hl:l.length<=9223372036854775807):Ct prog 195 [dl l,D.str c] σ (fun r σ'=>r= .bool (pP c l)/\σ'=σ):=by
 refine zf func195 ?_;refine aZ fun _ _ Z=>?_;simp;apply Z;refine aZ fun _ _ Z=>?_;refine zs 2 fun _ Y=>?_;simp;apply Y;refine aE fun _ Y=>?_;simp;refine cH (Ty _ _ _ hl) ?_;apply Y;simp;apply Z;apply aC;simp[aI]
theorem Jb(l:Ls)(σ:List (List D))(hl:l.length<=1000000):Ct prog 152 [dl l] σ (fun r σ'=>r=dlo l/\σ'=σ):=by
 refine zf func152 ?_;refine zr ⟨[2],[],[],[],[]⟩ fun _ _ Z=>?_;simp;apply Z;apply aF;refine zr ⟨[2],[],[],[],[]⟩ fun _ _ Z=>?_;refine zs 1 fun _ Y=>?_;simp;apply Y;refine aE fun _ Y=>?_;simp;refine⟨Y _ ?_,fun e1=>Y _ ?_⟩
 .simp only [dL];apply Z;refine aX (t:=false) (by simp) (fun h=>by cases h) (fun _=>?_);apply zA;refine zr ⟨[2],[],[],[],[]⟩ fun _ _ Z=>?_;simp;and_intros<;>(try omega);apply Z;apply aC;simp [aI]
 simp only [dL];apply Z;refine aX (t:=true) (by simp) (fun _=>?_) (fun h=>by cases h);refine zr ⟨[2],[],[],[],[]⟩ fun _ _ Z=>?_;simp;apply Z;apply aC;simp [aI,e1]
@[simp] abbrev q25_2:Cfg:=⟨[4,5,12,16],[],[],[],[]⟩
theorem aIm(l:Ls)(c:ByteArray)(σ:List (List D))(hl:l.length<=1000000):Ct prog 186 [dl l,D.str c] σ (fun r σ'=>r=dlo (rC l c)/\σ'=σ):=by
 refine zf func186 ?_;refine zr q25_2 fun _ _ Z=>?_;simp;apply Z;refine zr q25_2 fun _ _ Z=>?_;refine zs 1 fun _ Y=>?_;simp;apply Y;refine aE fun _ Y=>?_;simp;refine cH (Jb _ _ hl) ?_;apply Y;simp;apply Z;apply aF;refine zr q25_2 fun _ _ Z=>?_;refine zs 2 fun _ Y=>?_;simp;apply Y;refine aE fun _ Y=>?_;simp;refine cH (yT l _ _ (by omega)) ?_;apply Y;simp;apply Z;refine zI ?_ ?_<;>intro c1<;>try simp at c1
 .refine zt q25_2 fun _ _ Z=>?_;simp;and_intros<;>(try omega);apply Z;apply fH;refine zk [4,5] ?_;refine zr q25_2 fun _ _ Z=>?_;simp;apply Z;apply aC;simp [aI,rC,c1]
 apply zA;refine zr q25_2 fun _ _ Z=>?_;simp;apply Z;apply aC;simp [aI,rC,c1]
theorem Mh(l:Ls)(p:ByteArray->Bool)(f:FuncId)(caps:List D)(m cap:Nat)(rest:List D)(σ:List (List D))(hl:l.length<=9223372036854775807)(hσ:σ[m]?=some (l.map D.str++rest))(hcp:∀d∈caps,d.plain=true)(hcs:caps.map D.strip=caps)(hp:∀x τ,Ct prog f (D.str x::caps) τ (fun r τ'=>r= .bool (p x)/\τ'=τ)):Ct prog 226 [.slo m 0 l.length cap,.clo (.func f) [] caps] σ (fun r σ'=>r= .int (vY p l)/\σ'=σ):=by
 refine zf func226 ?_;refine zr ⟨[],[],[],[7,14],[]⟩ fun _ _ Z=>?_;simp(disch:=omega)[hσ,hcs,fJ];apply Z;apply aF;refine zr ⟨[],[],[],[7,14],[]⟩ fun _ _ Z=>?_;simp(disch:=omega)[hσ,hcs,fJ];and_intros<;>(try omega);apply Z;apply aR;refine zk [0,1,4,7,8] ?_;refine aY (fun(k:Nat)=> [(8,.d (.v (.int .i64 (k:Int))))]) [4,5,8,9,10,11,12,13,14,15,16,17,18] (fun(k:Nat)=>k<=l.length/\∀x∈l.take k,p x=false) (fun(k:Nat)=>l.length - k) (0) (by simp <;> rfl) ?_ ?_ ?_
 .simp
 .simp
 rintro k ⟨hk,hh⟩;simp only [aQ,aP];refine zr ⟨[],[],[],[7,14],[]⟩ fun _ _ Z=>?_;simp(disch:=omega)[hσ,hcs,fJ];apply Z;apply aF;refine zI ?_ ?_<;>intro c1<;>try simp at c1
 .apply jY;refine zr ⟨[],[],[],[7,14],[]⟩ fun _ _ Z=>?_;simp(disch:=omega)[hσ,hcs,fJ];apply Z;refine zr ⟨[],[],[],[7,14],[]⟩ fun _ _ Z=>?_;refine zs 5 fun _ Y=>?_;simp(disch:=omega)[hσ,hcs,fJ];and_intros<;>(try omega);apply Y;refine aE fun _ Y=>?_;simp(disch:=omega)[hσ,hcs,fJ];refine⟨hcp,?_⟩;refine cH (hp l[k] _) ?_;apply Y;simp only [dL];apply Z;refine zI ?_ ?_<;>intro c2<;>try simp at c2
  .refine zk [0,1,5,7,8] ?_;refine zr ⟨[],[],[],[7,14],[]⟩ fun _ _ Z=>?_;simp(disch:=omega)[hσ,hcs,fJ];apply Z;apply aC;simp [aI];exact(Hx c1 hh c2).symm
  apply nI;refine zk [0,1,7,8] ?_;refine zt ⟨[],[],[],[7,14],[]⟩ fun _ _ Z=>?_;simp(disch:=omega)[hσ,hcs,fJ];and_intros<;>(try omega);apply Z;refine zq (k+1) ?_ ?_ ?_
  .exact⟨by omega,uR (by omega) hh c2⟩
  .try dsimp only
   omega
  simp(disch:=omega)[hσ,hcs,fJ]
 apply zE;refine zr ⟨[],[],[],[7,14],[]⟩ fun _ _ Z=>?_;simp(disch:=omega)[hσ,hcs,fJ];apply Z;apply aC;simp [aI];rw [bX (by omega)] at hh;exact(xV hh).symm
theorem Mb(f:FuncId)(caps:List D)(σ:List (List D))(hcp:∀d∈caps,d.plain=true):Ct prog 226 [.xl 0,.clo (.func f) [] caps] σ (fun r σ'=>r= .int (-1)/\σ'=σ):=by
 refine zf func226 ?_;refine zr ⟨[],[],[],[7],[]⟩ fun _ _ Z=>?_;simp;apply Z;apply aF;refine zr ⟨[],[],[],[7],[]⟩ fun _ _ Z=>?_;simp;and_intros<;>(try omega);apply Z;apply aR;refine zk [0,1,4,7,8] ?_;refine aY (fun(k:Nat)=> [(8,.d (.int 0))]) [4,5,8,9,10,11,12,13,14,15,16,17,18] (fun(k:Nat)=>k=0) (fun(k:Nat)=>0) (0) (by simp <;> rfl) ?_ ?_ ?_
 .simp
 .rfl
 rintro k hk;simp only [aQ,aP];refine zr ⟨[],[],[],[7],[]⟩ fun _ _ Z=>?_;simp;apply Z;apply aF;refine zI ?_ ?_<;>intro c1<;>try simp at c1
 apply zE;refine zr ⟨[],[],[],[7],[]⟩ fun _ _ Z=>?_;simp;apply Z;apply aC;simp [aI]
theorem Vy(p:ByteArray->Bool)(l k:Ls)(rest:List D):List.take k.length ((k++l).map D.str++rest)=k.map D.str:=by
 rw [cN,bU,Mt (by simp)];rw [bX (by simp)]
@[simp] abbrev q25_3:Cfg:=⟨[4,13],[],[],[18,24,33,38,41],[]⟩
theorem Jw(l:Ls)(p:ByteArray->Bool)(f:FuncId)(caps:List D)(σ:List (List D))(hl:l.length<=1000000)(hne:l≠ [])(hcp:∀d∈caps,d.plain=true)(hcs:caps.map D.strip=caps)(hp:∀x τ,Ct prog f (D.str x::caps) τ (fun r τ'=>r= .bool (p x)/\τ'=τ)):Ct prog 268 [.xs 1 (l.map D.str),.clo (.func f) [] caps] σ (fun r σ'=>r= .xs 1 ((l.filter fun x=> !p x).map D.str)/\σ'=σ++ [[]]):=by
 refine zf func268 ?_;refine sB 0 1 rfl (by decide) fun cap rest hcap hcm hrest hk0 hes=>?_;simp only [bS] at hcap hrest |-;rw [tV (f:=D.str) (fun _=>rfl)];refine zr q25_3 fun _ _ Z=>?_;simp(disch:=first|omega|assumption)[hcs,fJ,iT];apply Z;refine zr q25_3 fun _ _ Z=>?_;refine zs 2 fun _ Y=>?_;simp(disch:=first|omega|assumption)[hcs,fJ,iT];apply Y;refine aE fun _ Y=>?_;simp(disch:=first|omega|assumption)[hcs,fJ,iT];refine cH (Mh l p f caps σ.length cap rest _ (by omega) (by simp) hcp hcs hp) ?_;apply Y;simp(disch:=first|omega|assumption)[hcs,fJ,iT];apply Z;apply aF;refine zr q25_3 fun _ _ Z=>?_;simp(disch:=first|omega|assumption)[hcs,fJ,iT];apply Z;refine zI ?_ ?_<;>intro c1<;>try simp at c1
 .refine zr q25_3 fun _ _ Z=>?_;simp(disch:=first|omega|assumption)[hcs,fJ,iT];apply Z;refine fF 4 1 σ.length l.length cap (l.map D.str) (l.map D.str++rest) (by simp <;> rfl) (by simp) (by omega) (by simp [hrest];omega) (by simp) (by simp) (by rw [tV (fun _=>rfl)];exact cZ _ _) ?_;simp only [sI];apply aC;simp [aI];rcases zW p l with ⟨_,h⟩ | ⟨k,h,_⟩
  .rw [h]
  omega
 obtain⟨k0,e0,e1,e2,e3⟩:=Kq c1;rw [e0];apply zA;apply aF;refine zr q25_3 fun _ _ Z=>?_;simp(disch:=first|omega|assumption)[hcs,fJ,iT];and_intros<;>try first|omega|exact rfl
 apply Z;apply aR;refine zk [0,1,4,5,6] ?_;refine kE (fun(j:Nat)=> [(5,.d (.v (.int .i64 ((kp p l j).length:Int)))),(6,.d (.v (.int .i64 (j:Int))))]) (fun(j:Nat)=> []) (fun(j:Nat)=> [(σ.length,(ar p l j).map D.str++rest)]) [5,6,7,16,17,18,19,20,21,22,23,24,25,26,27,28,29,30,31,32,33,34,35] (fun(j:Nat)=>j<=l.length) (fun(j:Nat)=>l.length - j) (k0+1) (by simp <;> rfl) ?_ (by simp) (by simp [e1]) ?_ ?_
 .simp [e1,e2]
 .omega
 rintro j hj;simp only [aQ,aP,lJ,jS,gE,fV];have hkl:=Tc p l j hj;have hal:=Ro p l j;apply aF;refine zr q25_3 fun _ _ Z=>?_;simp(disch:=first|omega|assumption)[hcs,fJ,iT];and_intros<;>try first|omega|exact rfl
 apply Z;refine zI ?_ ?_<;>intro c2<;>try simp at c2
 .apply jY;refine zr q25_3 fun _ _ Z=>?_;simp(disch:=first|omega|assumption)[hcs,fJ,iT];and_intros<;>try first|omega|exact rfl
  apply Z;refine zk [0,1,4,5,6,7] ?_;refine zr q25_3 fun _ _ Z=>?_;refine zs 2 fun _ Y=>?_;simp(disch:=first|omega|assumption)[hcs,fJ,iT];apply Y;refine aE fun _ Y=>?_;simp(disch:=first|omega|assumption)[hcs,fJ,iT];simp only [aH0 p l j (by omega)];refine⟨hcp,?_⟩;refine cH (hp l[j] _) ?_;apply Y;simp(disch:=first|omega|assumption)[hcs,fJ,iT];apply Z;refine zI ?_ ?_<;>intro c3<;>try simp at c3
  .refine zr q25_3 fun _ _ Z=>?_;simp(disch:=first|omega|assumption)[hcs,fJ,iT];and_intros<;>try first|omega|exact rfl
   apply Z;refine zk [0,1,4,5,6] ?_;refine zt q25_3 fun _ _ Z=>?_;simp(disch:=first|omega|assumption)[hcs,fJ,iT];and_intros<;>try first|omega|exact rfl
   apply Z;apply zB;refine zt q25_3 fun _ _ Z=>?_;simp(disch:=first|omega|assumption)[hcs,fJ,iT];and_intros<;>try first|omega|exact rfl
   apply Z;refine fC (j+1) ?_ ?_ (dU rfl ?_ (by simp) (by rw [<- (Gz p l j (by omega) c3).1];simp(disch:=omega) [aHj,hal]))
   .omega
   .try dsimp only
    omega
   simp(disch:=first|omega|assumption)[hcs,fJ,iT,(Gz p l j (by omega) c3).2]
  apply nI;refine zt q25_3 fun _ _ Z=>?_;simp(disch:=first|omega|assumption)[hcs,fJ,iT];and_intros<;>try first|omega|exact rfl
  apply Z;refine fC (j+1) ?_ ?_ (dU rfl ?_ (by simp) (by simp [(Au p l j (by omega) c3).1]))
  .omega
  .try dsimp only
   omega
  simp(disch:=first|omega|assumption)[hcs,fJ,iT,(Au p l j (by omega) c3).2]
 apply zE;refine zr q25_3 fun _ _ Z=>?_;simp(disch:=first|omega|assumption)[hcs,fJ,iT];and_intros<;>try first|omega|exact rfl
 apply Z;refine zk [0,4,5] ?_;refine zr q25_3 fun _ _ Z=>?_;simp(disch:=first|omega|assumption)[hcs,fJ,iT];and_intros<;>try first|omega|exact rfl
 apply Z;refine fF 4 1 σ.length (kp p l j).length cap ((kp p l j).map D.str) ((kp p l j).map D.str++(jK #[.string ⟨#[]⟩] (l.length - (kp p l j).length)++rest)) (by simp <;> rfl) (by rw [show List.map D.str (kp p l j)=List.take (kp p l j).length (List.map D.str (ar p l j)++rest)from(Vy p _ _ rest).symm];simp [jT (z:=#[.string ⟨#[]⟩]) (k:=1) rfl,show(kp p l j).length+(l.length - (kp p l j).length)=l.length by omega,aLv D.str (ar p l j) rest l.length hal.symm]) (by omega) (by simp [hrest,jT (z:=#[.string ⟨#[]⟩]) (k:=1) rfl];omega) (by simp) (by simp) (by rw [tV (fun _=>rfl)];exact cZ _ _) ?_;simp only [sI];apply aC;simp [aI];unfold kp;rw [bX (by omega)]
theorem Lr(f:FuncId)(caps:List D)(σ:List (List D))(hcp:∀d∈caps,d.plain=true):Ct prog 268 [.xs 1 [],.clo (.func f) [] caps] σ (fun r σ'=>r= .xs 1 []/\σ'=σ):=by
 refine zf func268 ?_;refine zr ⟨[4,13],[],[],[],[]⟩ fun _ _ Z=>?_;simp;apply Z;refine zr ⟨[4,13],[],[],[],[]⟩ fun _ _ Z=>?_;refine zs 2 fun _ Y=>?_;simp;apply Y;refine aE fun _ Y=>?_;simp;refine cH (Mb f caps _ hcp) ?_;apply Y;simp;apply Z;apply aF;refine zr ⟨[4,13],[],[],[],[]⟩ fun _ _ Z=>?_;simp;apply Z;refine zI ?_ ?_<;>intro c1<;>try simp at c1
 refine zr ⟨[4,13],[],[],[],[]⟩ fun _ _ Z=>?_;simp;apply Z;apply aC;simp[aI]
theorem aOg(N:Nat)(l:Ls):Sc N (.xs 1 (l.map D.str)):=Sc.xs fun d hd e he=>by
 obtain⟨a,_,rfl⟩:=aU.1 hd;simp [D.cells] at he;subst he;exact Sc.v _
theorem Mm(l:Ls)(p:ByteArray->Bool)(f:FuncId)(caps:List D)(σ:List (List D))(hl:l.length<=1000000)(hcp:∀d∈caps,d.plain=true)(hcs:caps.map D.strip=caps)(hp:∀x τ,Ct prog f (D.str x::caps) τ (fun r τ'=>r= .bool (p x)/\τ'=τ)):
  Ct prog 268 [.xs 1 (l.map D.str),.clo (.func f) [] caps] σ (fun r σ'=>r= .xs 1 ((l.filter fun x=> !p x).map D.str)/\σ'=σ):=by
 by_cases hne:l= []
 .subst hne;exact Lr f caps σ hcp
 exact(Jw l p f caps σ hl hne hcp hcs hp).trim fun r σ' ⟨hr,hs⟩=>⟨σ, [[]],hs,rfl,by rw [hr];exact aOg _ _,fun n cs h=> .inl h,hr,rfl⟩
theorem Xd(l:Ls)(σ:List (List D))(hl:l.length<=1000000):Ct prog 152 [dl l] σ (fun r σ'=>vS 1 (l.map D.str) r/\σ'=σ):=by
 refine zf func152 ?_;refine zr ⟨[2],[],[],[7],[]⟩ fun _ _ Z=>?_;simp(disch:=first|omega|assumption);apply Z;apply aF;refine zr ⟨[2],[],[],[7],[]⟩ fun _ _ Z=>?_;refine zs 1 fun _ Y=>?_;simp(disch:=first|omega|assumption);apply Y;refine aE fun _ Y=>?_;simp(disch:=first|omega|assumption);refine⟨Y _ ?_,fun e1=>Y _ ?_⟩
 .simp only [dL];apply Z;refine aX (t:=false) (by simp) (fun h=>by cases h) (fun _=>?_);apply zA;refine zr ⟨[2],[],[],[7],[]⟩ fun _ _ Z=>?_;simp(disch:=first|omega|assumption);and_intros<;>try first|omega|exact rfl
  apply Z;apply aC;simp [aI,vS]
 simp only [dL];apply Z;refine aX (t:=true) (by simp) (fun _=>?_) (fun h=>by cases h);refine zr ⟨[2],[],[],[7],[]⟩ fun _ _ Z=>?_;simp(disch:=first|omega|assumption);apply Z;apply aC;simp [aI,vS,e1]
theorem aD6(l:Ls)(σ:List (List D))(hl:l.length<=1000000):Ct prog 152 [dl l] σ (fun r σ'=>r= .xs 1 (l.map D.str)/\σ'=σ):=(Xd l σ hl).toX fun _ _ h=>h
theorem Zs(l:Ls)(p:ByteArray->Bool)(f:FuncId)(caps:List D)(σ:List (List D))(hl:l.length<=1000000)(hcp:∀d∈caps,d.plain=true)(hcs:caps.map D.strip=caps)(hp:∀x τ,Ct prog f (D.str x::caps) τ (fun r τ'=>r= .bool (p x)/\τ'=τ)):Ct prog 256 [dl l,.clo (.func f) [] caps] σ (fun r σ'=>r= .xs 1 ((l.filter fun x=> !p x).map D.str)/\σ'=σ):=by
 refine zf func256 ?_;refine zr ⟨[4,7,8],[],[],[],[]⟩ fun _ _ Z=>?_;simp;apply Z;refine zr ⟨[4,7,8],[],[],[],[]⟩ fun _ _ Z=>?_;refine zs 1 fun _ Y=>?_;simp;apply Y;refine aE fun _ Y=>?_;simp;refine cH (aD6 l _ hl) ?_;apply Y;refine zs 1 fun _ Y=>?_;simp;apply Y;refine aE fun _ Y=>?_;simp;refine cH (Mm l p f caps _ hl hcp hcs hp) ?_;apply Y;simp;apply Z;apply aC;simp[aI]
theorem aMn(x c:ByteArray)(σ:List (List D))  :Ct prog 257 [D.str x,.adr [D.str c]] σ (fun r σ'=>r= .bool (decide (x=c))/\σ'=σ):=by
 refine zf func257 ?_;refine aZ fun _ _ Z=>?_;simp;apply Z;refine aZ fun _ _ Z=>?_;simp;apply Z;apply aC;simp[aI]
theorem aGh(l:Ls)(c:ByteArray)(σ:List (List D))(hl:l.length<=1000000):Ct prog 230 [dl l,D.str c] σ (fun r σ'=>r= .xs 1 ((kO l c).map D.str)/\σ'=σ):=by
 refine zf func230 ?_;refine zr ⟨[4],[3],[],[],[]⟩ fun _ _ Z=>?_;simp;apply Z;refine zr ⟨[4],[3],[],[],[]⟩ fun _ _ Z=>?_;refine zs 2 fun _ Y=>?_;simp;and_intros<;>(try omega);apply Y;refine aE fun _ Y=>?_;simp;refine cH (Zs l (fun x=>decide (x=c)) 257 [.adr [D.str c]] _ hl (by simp) (by simp) (fun x τ=>aMn x c τ)) ?_;apply Y;simp;apply Z;apply aC;simp [aI,kO]
theorem aMb(l:Ls)(c:ByteArray)(σ:List (List D))(hl:l.length<=1000000):Ct prog 230 [dl l,D.str c] σ (fun r σ'=>r=dl (kO l c)/\σ'=σ):=(aGh l c σ hl).freeze fun _ _ h=>h
end Go.Proofs.YtbgfljpnhhdkoaaGreat
