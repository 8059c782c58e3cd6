import Derived.Test.YtbgfljpnhhdkoaaGreatVmTab
import Derived.Test.YtbgfljpnhhdkoaaGreatVmZ
set_option linter.all false
set_option maxRecDepth 20000
set_option maxHeartbeats 8000000
open Go.Proofs.Tryz
namespace Go.Proofs.YtbgfljpnhhdkoaaGreat
open Go Go.Vm
variable {c s:ByteArray}{k:Nat}{p:Int->Bool}
def lJ(s:ByteArray)(k:Nat):Int:=((s.data[k]?.getD 0).toNat:Int)
def Wz(p:Int->Bool)(s:ByteArray):Bool:=(List.range s.size).all fun k=>p (lJ s k)
theorem aLc (h:∀j,j<k->p (lJ s j)=true)(hk:s.size<=k):Wz p s=true:=by
 unfold Wz;rw [gF];intro j hj;exact h j (by have:=eG.1 hj;omega)
theorem aJj (h:p (lJ s k)=false)(hk:k<s.size):Wz p s=false:=by
 rw [<- zV];intro hh;unfold Wz at hh;rw [gF] at hh;have:=hh k (eG.2 hk);rw [h] at this;cases this
theorem aT5 (h:Wz p s=true)(k:Nat)(hk:k<s.size):p (lJ s k)=true:=by
 unfold Wz at h;rw [gF] at h;exact h k (eG.2 hk)
theorem Lf (h:∀j,j<k->p (lJ s j)=true)(h2:p (lJ s k)=true):∀j,j<k+1->p (lJ s j)=true:=fun j hj=>by
 rcases Pw.1 hj with h1 | rfl
 .exact h j h1
 exact h2
def Nd(x0:Int)(x1:Int)(x2:Int):Int:=max x1 (min x0 x2)
theorem aOu(x0:Int)(x1:Int)(x2:Int)(σ:List (List D))  :Ct prog 131 [.v (.int .i64 x0),.v (.int .i64 x1),.v (.int .i64 x2)] σ (fun r σ'=>r= .v (.int .i64 (Nd x0 x1 x2))/\σ'=σ):=by
 refine zf func131 ?_;refine bB fun all K Z=>?_;simp;apply Z;clear Z K all;refine bB fun all K Z=>?_;simp;and_intros<;>(try omega);apply Z;clear Z K all;apply aC;first | (simp [aH,Nd];done) | (simp [aH,Nd];done) | (simp [aH];unfold Nd;(repeat' split) <;> first | (exfalso;omega) | (simp_all;done)) | (simp [aH,Nd, *];done) | (simp_all [aH,Nd];done) | (simp_all [aH,Nd];omega) | (simp [aH,Nd] <;> split <;> omega)
def Av(x0:Int):Int:=max (-2147483648) (min x0 2147483647)
theorem Sk(x0:Int)(σ:List (List D))  :Ct prog 238 [.v (.int .i64 x0)] σ (fun r σ'=>r= .v (.int .i64 (Av x0))/\σ'=σ):=by
 refine zf func238 ?_;refine bB fun all K Z=>?_;simp;apply Z;clear Z K all;refine bB fun all K Z=>?_;simp;and_intros<;>(try omega);apply Z;clear Z K all;apply aC;first | (simp [aH,Av];done) | (simp [aH,Av];done) | (simp [aH];unfold Av;(repeat' split) <;> first | (exfalso;omega) | (simp_all;done)) | (simp [aH,Av, *];done) | (simp_all [aH,Av];done) | (simp_all [aH,Av];omega) | (simp [aH,Av] <;> split <;> omega)
def rZ(x0:Int):Int:=if x0 > 2147483647 then 2147483647
 else if x0<(-2147483648)then(-2147483648)
  else x0
theorem aPw(x0:Int)(σ:List (List D))  :Ct prog 74 [.v (.int .i64 x0)] σ (fun r σ'=>r= .v (.int .i64 (rZ x0))/\σ'=σ):=by
 refine zf func74 ?_;refine bB fun all K Z=>?_;simp;apply Z;clear Z K all;apply aE;refine bB fun all K Z=>?_;simp;apply Z;clear Z K all;refine zI ?_ ?_<;>intro c1<;>try simp at c1
 .all_goals try (exfalso;omega)
  all_goals
   refine bB fun all K Z=>?_;simp;apply Z;clear Z K all;apply aC;first | (simp [aH,rZ,c1];done) | (simp [aH,rZ];done) | (simp [aH];unfold rZ;(repeat' split) <;> first | (exfalso;omega) | (simp_all;done)) | (simp [aH,rZ, *];done) | (simp_all [aH,rZ];done) | (simp_all [aH,rZ];omega) | (simp [aH,rZ] <;> split <;> omega)
 all_goals try (exfalso;omega)
 all_goals
  apply zA;apply aE;refine bB fun all K Z=>?_;simp;apply Z;clear Z K all;refine zI ?_ ?_<;>intro c2<;>try simp at c2
  .all_goals try (exfalso;omega)
   all_goals
    refine bB fun all K Z=>?_;simp;apply Z;clear Z K all;apply aC;first | (simp [aH,rZ,c1,c2];done) | (simp [aH,rZ];done) | (simp [aH];unfold rZ;(repeat' split) <;> first | (exfalso;omega) | (simp_all;done)) | (simp [aH,rZ, *];done) | (simp_all [aH,rZ];done) | (simp_all [aH,rZ];omega) | (simp [aH,rZ] <;> split <;> omega)
  all_goals try (exfalso;omega)
  all_goals
   apply zA;refine bB fun all K Z=>?_;simp;apply Z;clear Z K all;apply aC;first | (simp [aH,rZ,c1,c2];done) | (simp [aH,rZ];done) | (simp [aH];unfold rZ;(repeat' split) <;> first | (exfalso;omega) | (simp_all;done)) | (simp [aH,rZ, *];done) | (simp_all [aH,rZ];done) | (simp_all [aH,rZ];omega) | (simp [aH,rZ] <;> split <;> omega)
def lB(x0:Int):Bool:=if x0>=97 then decide (x0<=122)
 else false
theorem Pb(x0:Int)(σ:List (List D))  :Ct prog 228 [.v (.int .u8 x0)] σ (fun r σ'=>r= .v (.bool (lB x0))/\σ'=σ):=by
 refine zf func228 ?_;refine bB fun all K Z=>?_;simp;apply Z;clear Z K all;refine mH ⟨[],[],[],[],[]⟩ fun all hall K Z=>?_;have ga2:aN all 2=some 5:=hall 2;clear hall;refine zs 3 fun K' Y=>?_;simp[ga2];apply Y;clear Y K';refine zb 5 ?_ ?_<;>intro g1<;>try simp at g1
 .all_goals try (exfalso;omega)
  all_goals
   simp[ga2];apply Z;clear Z K ga2 all;apply aC;first | (simp [aH,lB,g1];done) | (simp [aH,lB];done) | (simp [aH];unfold lB;(repeat' split) <;> first | (exfalso;omega) | (simp_all;done)) | (simp [aH,lB, *];done) | (simp_all [aH,lB];done) | (simp_all [aH,lB];omega) | (simp [aH,lB] <;> split <;> omega)
 all_goals try (exfalso;omega)
 all_goals
  simp[ga2];apply Z;clear Z K ga2 all;apply aC;first | (simp [aH,lB,g1];done) | (simp [aH,lB];done) | (simp [aH];unfold lB;(repeat' split) <;> first | (exfalso;omega) | (simp_all;done)) | (simp [aH,lB, *];done) | (simp_all [aH,lB];done) | (simp_all [aH,lB];omega) | (simp [aH,lB] <;> split <;> omega)
def rD(x0:Int):Bool:=if x0>=48 then decide (x0<=57)
 else false
theorem aIw(x0:Int)(σ:List (List D))  :Ct prog 267 [.v (.int .u8 x0)] σ (fun r σ'=>r= .v (.bool (rD x0))/\σ'=σ):=by
 refine zf func267 ?_;refine bB fun all K Z=>?_;simp;apply Z;clear Z K all;refine mH ⟨[],[],[],[],[]⟩ fun all hall K Z=>?_;have ga2:aN all 2=some 5:=hall 2;clear hall;refine zs 3 fun K' Y=>?_;simp[ga2];apply Y;clear Y K';refine zb 5 ?_ ?_<;>intro g1<;>try simp at g1
 .all_goals try (exfalso;omega)
  all_goals
   simp[ga2];apply Z;clear Z K ga2 all;apply aC;first | (simp [aH,rD,g1];done) | (simp [aH,rD];done) | (simp [aH];unfold rD;(repeat' split) <;> first | (exfalso;omega) | (simp_all;done)) | (simp [aH,rD, *];done) | (simp_all [aH,rD];done) | (simp_all [aH,rD];omega) | (simp [aH,rD] <;> split <;> omega)
 all_goals try (exfalso;omega)
 all_goals
  simp[ga2];apply Z;clear Z K ga2 all;apply aC;first | (simp [aH,rD,g1];done) | (simp [aH,rD];done) | (simp [aH];unfold rD;(repeat' split) <;> first | (exfalso;omega) | (simp_all;done)) | (simp [aH,rD, *];done) | (simp_all [aH,rD];done) | (simp_all [aH,rD];omega) | (simp [aH,rD] <;> split <;> omega)
def plain(x0:Int):Bool:=if(lB x0)=true then true
 else if(rD x0)=true then true
  else decide (x0=45)
theorem aM6(x0:Int)(σ:List (List D))  :Ct prog 254 [.v (.int .u8 x0)] σ (fun r σ'=>r= .v (.bool (plain x0))/\σ'=σ):=by
 refine zf func254 ?_;refine bB fun all K Z=>?_;simp;apply Z;clear Z K all;refine mH ⟨[],[],[],[],[]⟩ fun all hall K Z=>?_;have ga2:aN all 2=some 5:=hall 2;have ga6:aN all 6=some 9:=hall 6;clear hall;refine zs 1 fun K' Y=>?_;simp[ga2,ga6];apply Y;clear Y K';refine aF fun K' Y=>?_;simp[ga2,ga6];refine cT (Pb x0 _) ?_;apply Y;clear Y K';refine zs 1 fun K' Y=>?_;simp[ga2,ga6];apply Y;clear Y K';refine zb 5 ?_ ?_<;>intro g1<;>try simp at g1
 .all_goals try (exfalso;omega)
  all_goals
   refine zs 4 fun K' Y=>?_;simp[ga2,ga6];apply Y;clear Y K';simp[ga2,ga6];apply Z;clear Z K ga2 ga6 all;apply aC;first | (simp [aH,plain,g1];done) | (simp [aH,plain];done) | (simp [aH];unfold plain;(repeat' split) <;> first | (exfalso;omega) | (simp_all;done)) | (simp [aH,plain, *];done) | (simp_all [aH,plain];done) | (simp_all [aH,plain];omega) | (simp [aH,plain] <;> split <;> omega)
 all_goals try (exfalso;omega)
 all_goals
  refine zs 1 fun K' Y=>?_;simp[ga2,ga6];apply Y;clear Y K';refine zg ga2 fun K' Y=>?_;simp[ga2,ga6];refine cT (aIw x0 _) ?_;apply Y;clear Y K';refine zs 2 fun K' Y=>?_;simp[ga2,ga6];apply Y;clear Y K';refine zb 9 ?_ ?_<;>intro g2<;>try simp at g2
  .all_goals try (exfalso;omega)
   all_goals
    simp[ga2,ga6];apply Z;clear Z K ga2 ga6 all;apply aC;first | (simp [aH,plain,g1,g2];done) | (simp [aH,plain];done) | (simp [aH];unfold plain;(repeat' split) <;> first | (exfalso;omega) | (simp_all;done)) | (simp [aH,plain, *];done) | (simp_all [aH,plain];done) | (simp_all [aH,plain];omega) | (simp [aH,plain] <;> split <;> omega)
  all_goals try (exfalso;omega)
  all_goals
   simp[ga2,ga6];apply Z;clear Z K ga2 ga6 all;apply aC;first | (simp [aH,plain,g1,g2];done) | (simp [aH,plain];done) | (simp [aH];unfold plain;(repeat' split) <;> first | (exfalso;omega) | (simp_all;done)) | (simp [aH,plain, *];done) | (simp_all [aH,plain];done) | (simp_all [aH,plain];omega) | (simp [aH,plain] <;> split <;> omega)
def dP (x0 : Int) : Bool := if x0 >= 97 then if x0 <= 122 then true
  else if x0>=48 then if x0<=57 then true
    else decide (x0=45)
   else decide (x0=45)
 else if x0>=48 then if x0<=57 then true
   else decide (x0=45)
  else decide (x0=45)
theorem aFp (x0 : Int) (σ : List (List D))  : Ct prog 216 [.v (.int .u8 x0)] σ (fun r σ' => r = .v (.bool (dP x0)) /\ σ' = σ) := by
 refine zf func216 ?_;refine bB fun all K Z=>?_;simp;apply Z;clear Z K all;refine mH ⟨[],[],[],[],[]⟩ fun all hall K Z=>?_;have ga2:aN all 2=some 5:=hall 2;have ga6:aN all 6=some 9:=hall 6;have ga9:aN all 9=some 12:=hall 9;have ga14:aN all 14=some 17:=hall 14;clear hall;refine zs 3 fun K' Y=>?_;simp[ga2,ga6,ga9,ga14];apply Y;clear Y K';refine zb 5 ?_ ?_<;>intro g1<;>try simp at g1
 .all_goals try (exfalso;omega)
  all_goals
   refine zs 4 fun K' Y=>?_;simp[ga2,ga6,ga9,ga14];apply Y;clear Y K';refine zb 9 ?_ ?_<;>intro g2<;>try simp at g2
   .all_goals try (exfalso;omega)
    all_goals
     refine zs 8 fun K' Y=>?_;simp[ga2,ga6,ga9,ga14];apply Y;clear Y K';simp[ga2,ga6,ga9,ga14];apply Z;clear Z K ga2 ga6 ga9 ga14 all;apply aC;first | (simp [aH,dP,g1,g2];done) | (simp [aH,dP];done) | (simp [aH];unfold dP;(repeat' split) <;> first | (exfalso;omega) | (simp_all;done)) | (simp [aH,dP, *];done) | (simp_all [aH,dP];done) | (simp_all [aH,dP];omega) | (simp [aH,dP] <;> split <;> omega)
   all_goals try (exfalso;omega)
   all_goals
    refine zs 3 fun K' Y=>?_;simp[ga2,ga6,ga9,ga14];apply Y;clear Y K';refine zb 12 ?_ ?_<;>intro g3<;>try simp at g3
    .all_goals try (exfalso;omega)
     all_goals
      refine zs 5 fun K' Y=>?_;simp[ga2,ga6,ga9,ga14];apply Y;clear Y K';refine zb 17 ?_ ?_<;>intro g4<;>try simp at g4
      .all_goals try (exfalso;omega)
       all_goals
        simp[ga2,ga6,ga9,ga14];apply Z;clear Z K ga2 ga6 ga9 ga14 all;apply aC;first | (simp [aH,dP,g1,g2,g3,g4];done) | (simp [aH,dP];done) | (simp [aH];unfold dP;(repeat' split) <;> first | (exfalso;omega) | (simp_all;done)) | (simp [aH,dP, *];done) | (simp_all [aH,dP];done) | (simp_all [aH,dP];omega) | (simp [aH,dP] <;> split <;> omega)
      all_goals try (exfalso;omega)
      all_goals
       simp[ga2,ga6,ga9,ga14];apply Z;clear Z K ga2 ga6 ga9 ga14 all;apply aC;first | (simp [aH,dP,g1,g2,g3,g4];done) | (simp [aH,dP];done) | (simp [aH];unfold dP;(repeat' split) <;> first | (exfalso;omega) | (simp_all;done)) | (simp [aH,dP, *];done) | (simp_all [aH,dP];done) | (simp_all [aH,dP];omega) | (simp [aH,dP] <;> split <;> omega)
    all_goals try (exfalso;omega)
    all_goals
     refine zs 5 fun K' Y=>?_;simp[ga2,ga6,ga9,ga14];apply Y;clear Y K';simp[ga2,ga6,ga9,ga14];apply Z;clear Z K ga2 ga6 ga9 ga14 all;apply aC;first | (simp [aH,dP,g1,g2,g3];done) | (simp [aH,dP];done) | (simp [aH];unfold dP;(repeat' split) <;> first | (exfalso;omega) | (simp_all;done)) | (simp [aH,dP, *];done) | (simp_all [aH,dP];done) | (simp_all [aH,dP];omega) | (simp [aH,dP] <;> split <;> omega)
 all_goals try (exfalso;omega)
 all_goals
  refine zs 4 fun K' Y=>?_;simp[ga2,ga6,ga9,ga14];apply Y;clear Y K';refine zs 3 fun K' Y=>?_;simp[ga2,ga6,ga9,ga14];apply Y;clear Y K';refine zb 12 ?_ ?_<;>intro g5<;>try simp at g5
  .all_goals try (exfalso;omega)
   all_goals
    refine zs 5 fun K' Y=>?_;simp[ga2,ga6,ga9,ga14];apply Y;clear Y K';refine zb 17 ?_ ?_<;>intro g6<;>try simp at g6
    .all_goals try (exfalso;omega)
     all_goals
      simp[ga2,ga6,ga9,ga14];apply Z;clear Z K ga2 ga6 ga9 ga14 all;apply aC;first | (simp [aH,dP,g1,g5,g6];done) | (simp [aH,dP];done) | (simp [aH];unfold dP;(repeat' split) <;> first | (exfalso;omega) | (simp_all;done)) | (simp [aH,dP, *];done) | (simp_all [aH,dP];done) | (simp_all [aH,dP];omega) | (simp [aH,dP] <;> split <;> omega)
    all_goals try (exfalso;omega)
    all_goals
     simp[ga2,ga6,ga9,ga14];apply Z;clear Z K ga2 ga6 ga9 ga14 all;apply aC;first | (simp [aH,dP,g1,g5,g6];done) | (simp [aH,dP];done) | (simp [aH];unfold dP;(repeat' split) <;> first | (exfalso;omega) | (simp_all;done)) | (simp [aH,dP, *];done) | (simp_all [aH,dP];done) | (simp_all [aH,dP];omega) | (simp [aH,dP] <;> split <;> omega)
  all_goals try (exfalso;omega)
  all_goals
   refine zs 5 fun K' Y=>?_;simp[ga2,ga6,ga9,ga14];apply Y;clear Y K';simp[ga2,ga6,ga9,ga14];apply Z;clear Z K ga2 ga6 ga9 ga14 all;apply aC;first | (simp [aH,dP,g1,g5];done) | (simp [aH,dP];done) | (simp [aH];unfold dP;(repeat' split) <;> first | (exfalso;omega) | (simp_all;done)) | (simp [aH,dP, *];done) | (simp_all [aH,dP];done) | (simp_all [aH,dP];omega) | (simp [aH,dP] <;> split <;> omega)
theorem aTz(x:Int):rZ x=Av x:=by
 unfold rZ Av
 repeat' split
 all_goals first | rfl | omega | skip
theorem Yn(x:Int):lB x=true↔97<=x/\x<=122:=by unfold lB;simp
theorem Nl(x:Int):plain x=true↔(97<=x/\x<=122)\/(48<=x/\x<=57)\/x=45:=by
 unfold plain lB rD;repeat' split
 all_goals simp_all
 all_goals omega
theorem Zj(x:Int):dP x=true↔(97<=x/\x<=122)\/(48<=x/\x<=57)\/x=45:=by
 unfold dP;repeat' split
 all_goals simp_all
 all_goals omega
theorem Qg(x:Int):dP x=plain x:=by rw [iZ,Zj,Nl]
def Bw(s:ByteArray):Bool:=decide (1<=s.size/\s.size<=16) && Wz plain s
def dT(s:ByteArray):Bool:=Bw s && decide (97<=lJ s 0)
theorem Wp(s:ByteArray):(s=⟨#[]⟩)↔s.size=0:=by
 constructor
 .rintro rfl;rfl
 intro h;cases s with
 | mk d=>
  have:d.size=0:=h;have:d=#[]:=by simpa using this
  rw [this]
theorem aP1(s:ByteArray)(p:Int->Bool)(f:FuncId)(σ:List (List D))(hs:s.size<=9223372036854775807)(hp:∀x τ,Ct prog f [.v (.int .u8 x)] τ (fun r τ'=>r= .bool (p x)/\τ'=τ)):Ct prog 253 [D.str s,.clo (.func f) [] []] σ (fun r σ'=>r= .bool (Wz p s)/\σ'=σ):=by
 refine zf func253 ?_;refine bB fun _ _ Z=>?_;simp;apply Z;apply aE;refine bB fun _ _ Z=>?_;simp;and_intros<;>(try omega);apply Z;apply aR;refine zk [0,1,4,7,8] ?_;refine aY (fun(k:Nat)=> [(8,.d (.v (.int .i64 (k:Int)))),(5,.d (.any))]) [4,5,8,9,10,11,12,13,14,15,16,17] (fun(k:Nat)=>k<=s.size/\∀j,j<k->p (lJ s j)=true) (fun(k:Nat)=>s.size - k) (0) (by simp <;> rfl) ?_ ?_ ?_
 .simp
 .simp
 rintro k ⟨hk,hh⟩;simp only [aQ,aO];refine bB fun _ _ Z=>?_;simp;apply Z;apply aE;refine zI ?_ ?_<;>intro c1<;>try simp at c1
 .apply jM;refine bB fun _ _ Z=>?_;simp;apply Z;refine bB fun _ _ Z=>?_;refine zs 4 fun _ Y=>?_;simp;and_intros<;>(try omega);apply Y;refine aF fun _ Y=>?_;simp;refine cT (hp (lJ s k) _) ?_;apply Y;simp;apply Z;refine zI ?_ ?_<;>intro c2<;>try simp at c2
  .refine zk [0,1,5,7,8] ?_;refine bB fun _ _ Z=>?_;simp;apply Z;apply aC;simp [aH];exact aJj (k:=k) (by simpa [lJ] using c2) (by omega)
  apply mS;refine zk [0,1,5,7,8] ?_;refine pF fun _ _ Z=>?_;simp;and_intros<;>(try omega);apply Z;refine zq (k+1) ?_ ?_ ?_
  .exact⟨by omega,Lf hh (by simpa [lJ] using c2)⟩
  .try dsimp only
   omega
  simp
 apply zE;refine bB fun _ _ Z=>?_;simp;apply Z;apply aC;simp [aH];exact aLc hh (by omega)
theorem aRu(s:ByteArray)(σ:List (List D))(hs:s.size<=9223372036854775807):Ct prog 227 [D.str s] σ (fun r σ'=>r= .bool (Bw s)/\σ'=σ):=by
 refine zf func227 ?_;refine bB fun _ _ Z=>?_;simp;apply Z;refine mH ⟨[],[],[],[],[]⟩ fun all hall _ Z=>?_;have ga2:aN all 2=some 5:=hall 2;have ga7:aN all 7=some 10:=hall 7;refine zs 3 fun _ Y=>?_;simp[ga2,ga7];apply Y;refine zb 5 ?_ ?_<;>intro g1<;>try simp at g1
 .refine zs 5 fun _ Y=>?_;simp[ga2,ga7];and_intros<;>(try omega);apply Y;refine zb 10 ?_ ?_<;>intro g2<;>try simp at g2
  .refine zs 1 fun _ Y=>?_;simp[ga2,ga7];apply Y;refine zg ga7 fun _ Y=>?_;simp[ga2,ga7];refine cT (aP1 s plain 254 _ hs (fun x τ=>aM6 x τ)) ?_;apply Y;simp[ga2,ga7];apply Z;apply aC;simp [aH,Bw];rw [Wp] at g1
   intros;omega
  simp[ga2,ga7];apply Z;apply aC;simp [aH,Bw]
  intros;omega
 refine zs 5 fun _ Y=>?_;simp[ga2,ga7];apply Y;simp[ga2,ga7];apply Z;apply aC;simp [aH,Bw];rw [Wp] at g1
 intros;omega
theorem Kd (h:Bw s=true):0<s.size/\s.size<=16:=by
 unfold Bw at h;simp at h;omega
theorem aAs (h:Bw s=true):lB (lJ s 0)=decide (97<=lJ s 0):=by
 have hp:=(Kd h).1;unfold Bw at h;rw [gP] at h;have:=aT5 h.2 0 hp;rw [Nl] at this;rw [iZ,Yn,fN];omega
theorem uY(s:ByteArray)(σ:List (List D))(hs:s.size<=9223372036854775807):Ct prog 193 [D.str s] σ (fun r σ'=>r= .bool (dT s)/\σ'=σ):=by
 refine zf func193 ?_;refine bB fun _ _ Z=>?_;simp;apply Z;refine mH ⟨[],[],[],[],[]⟩ fun all hall _ Z=>?_;have ga2:aN all 2=some 5:=hall 2;refine zs 1 fun _ Y=>?_;simp[ga2];apply Y;refine aF fun _ Y=>?_;simp[ga2];refine cT (aRu s _ hs) ?_;apply Y;refine zs 1 fun _ Y=>?_;simp[ga2];apply Y;refine zb 5 ?_ ?_<;>intro g1<;>try simp at g1
 .have hpos:=Kd g1;refine zs 2 fun _ Y=>?_;simp[ga2];and_intros<;>(try omega);apply Y;refine zg ga2 fun _ Y=>?_;simp[ga2];refine cT (Pb (lJ s 0) _) ?_;apply Y;simp[ga2];apply Z;apply aC;simp [aH,dT,g1,aAs g1]
 simp[ga2];apply Z;apply aC;simp [aH,dT,g1]
theorem aCx(s:ByteArray)(σ:List (List D))(hs:s.size<=9223372036854775807):Ct prog 162 [D.str s] σ (fun r σ'=>r= .bool (Bw s)/\σ'=σ):=by
 refine zf func162 ?_;refine bB fun _ _ Z=>?_;simp;apply Z;apply aE;refine bB fun _ _ Z=>?_;simp;apply Z;apply aR;refine zk [0,2,3] ?_;refine aY (fun(k:Nat)=> [(3,.d (.v (.int .i64 (k:Int))))]) [2,3,4,5,6,7,8,9,10,11,12,13,14] (fun(k:Nat)=>k<=s.size/\∀j,j<k->plain (lJ s j)=true) (fun(k:Nat)=>s.size - k) (0) (by simp <;> rfl) ?_ ?_ ?_
 .simp
 .simp
 rintro k ⟨hk,hh⟩;simp only [aQ,aO];apply aE;refine bB fun _ _ Z=>?_;simp;and_intros<;>(try omega);apply Z;refine zI ?_ ?_<;>intro c1<;>try simp at c1
 .apply jM;refine bB fun _ _ Z=>?_;refine zs 3 fun _ Y=>?_;simp;and_intros<;>(try omega);apply Y;refine aF fun _ Y=>?_;simp;refine cT (aFp (lJ s k) _) ?_;apply Y;simp;apply Z;refine zI ?_ ?_<;>intro c2<;>try simp at c2
  .refine bB fun _ _ Z=>?_;simp;apply Z;apply aC;simp [aH,Bw];intro _ _;exact aJj (k:=k) (by rw [<- Qg];simpa [lJ] using c2) (by omega)
  apply mS;refine pF fun _ _ Z=>?_;simp;and_intros<;>(try omega);apply Z;refine zq (k+1) ?_ ?_ ?_
  .exact⟨by omega,Lf hh (by rw [<- Qg];simpa [lJ] using c2)⟩
  .try dsimp only
   omega
  simp
 apply zE;refine mH ⟨[],[],[],[],[]⟩ fun all hall _ Z=>?_;have ga3:aN all 3=some 18:=hall 3;refine zs 4 fun _ Y=>?_;simp[ga3];and_intros<;>(try omega);apply Y;refine zb 18 ?_ ?_<;>intro g3<;>try simp at g3
 .simp[ga3];and_intros<;>(try omega);apply Z;apply aC;simp [aH,Bw];have:=aLc (p:=plain) (s:=s) hh (by omega);simp [this];rw [iZ];simp;omega
 simp[ga3];apply Z;apply aC;simp [aH,Bw]
 intros;omega
theorem xB(s:ByteArray)(σ:List (List D))(hs:s.size<=9223372036854775807):Ct prog 71 [D.str s] σ (fun r σ'=>r= .bool (dT s)/\σ'=σ):=by
 refine zf func71 ?_;refine bB fun _ _ Z=>?_;simp;apply Z;refine mH ⟨[],[],[],[],[]⟩ fun all hall _ Z=>?_;have ga2:aN all 2=some 5:=hall 2;refine zs 1 fun _ Y=>?_;simp[ga2];apply Y;refine aF fun _ Y=>?_;simp[ga2];refine cT (aCx s _ hs) ?_;apply Y;refine zs 1 fun _ Y=>?_;simp[ga2];apply Y;refine zb 5 ?_ ?_<;>intro g1<;>try simp at g1
 .have hpos:=Kd g1;simp[ga2];and_intros<;>(try omega);apply Z;apply aC;simp [aH,dT,g1,lJ];rfl
 simp[ga2];apply Z;apply aC;simp [aH,dT,g1]
def uC(n:Nat)(s:ByteArray):ByteArray:=if n<s.size then s.extract 0 n else s
theorem tI(n:Nat)(s:ByteArray):(uC n s).size<=n:=by
 unfold uC;split
 .simp;omega
 omega
theorem Bp(s:ByteArray)(n:Nat)(σ:List (List D))(hn:n<=1000000):Ct prog 20 [D.str s,D.int n] σ (fun r σ'=>r= .v (.string (uC n s))/\σ'=σ):=by
 refine zf func20 ?_;refine bB fun _ _ Z=>?_;simp;apply Z;apply aE;refine bB fun _ _ Z=>?_;simp;and_intros<;>(try omega);apply Z;refine zI ?_ ?_<;>intro c1<;>try simp at c1
 .refine bB fun _ _ Z=>?_;simp;and_intros<;>(try omega);apply Z;apply aC;simp [aH,uC,c1]
 apply zA;refine bB fun _ _ Z=>?_;simp;apply Z;apply aC;simp [aH,uC];intro h;omega
abbrev Ls:=List ByteArray
@[simp] abbrev dl(l:Ls):D:= .sl false (l.map D.str)
@[simp] abbrev dlo(l:Ls):D:= .sl true (l.map D.str)
def has(c:ByteArray)(l:Ls):Bool:=l.any fun x=>decide (x=c)
theorem Cm(c x:ByteArray)(l:Ls):has c (l++ [x])=(has c l || decide (x=c)):=by simp [has]
theorem Jt {l:Ls} (h:k<l.length)(e:l[k]=c):has c l=true:=by
 simp only [has,oW,fN];exact⟨l[k],bS h,e⟩
def rN(l:Ls)(c:ByteArray):Ls:=if has c l then l else l++ [c]
theorem aKf(l:Ls)(c:ByteArray):(rN l c).length<=l.length+1:=by
 unfold rN;split <;> simp
def Zv(c:ByteArray)(l:Ls):Int:=match l.findIdx? (fun x=>decide (x=c))with | some k=>k | none=> -1
theorem aQt {l:Ls} (h:k<l.length)(hh:has c (l.take k)=false)(e:c=l[k]):Zv c l=k:=by
 have:l.findIdx? (fun x=>decide (x=c))=some k:=by
  rw [qB];refine⟨h,by simp [e],fun j hj=>?_⟩;simp only [has,qI,fN] at hh;have:=hh ((l.take k)[j]'(by simp;omega)) (bS _);simpa using this
 simp [Zv,this]
theorem aG8 {l:Ls} (h:has c l=false):Zv c l= -1:=by
 have:l.findIdx? (fun x=>decide (x=c))=none:=by
  rw [qJ];simpa [has] using h
 simp [Zv,this]
theorem aL3(c:ByteArray)(l:Ls):(0<=Zv c l)↔has c l=true:=by
 unfold Zv;split
 .rename_i k h;rw [qB] at h;obtain⟨hk,he,_⟩:=h;simp only [fN] at he;simp [Jt hk he]
 rename_i h;rw [qJ] at h;simp [has];intro e;have:=h c e;simp at this
def kS(l:Ls)(c:ByteArray):Ls:=l.filter fun x=> !decide (x=c)
theorem wE(l:Ls)(x c:ByteArray):kS (l++ [x]) c=kS l c++if x=c then [] else [x]:=by
 simp [kS,fX,gQ]
theorem Ly(l:Ls)(c:ByteArray)(k:Nat)(h:k<l.length):kS (l.take (k+1)) c=kS (l.take k) c++if l[k]=c then [] else [l[k]]:=by rw [bL l k h,wE]
theorem Ou(l:Ls)(c:ByteArray):(kS l c).length<=l.length:=jD _ _
theorem Ro(l:Ls)(c:ByteArray)(σ:List (List D))(hl:l.length<=9223372036854775807):Ct prog 77 [dl l,D.str c] σ (fun r σ'=>r= .bool (has c l)/\σ'=σ):=by
 refine zf func77 ?_;refine bB fun _ _ Z=>?_;simp(disch:=omega);apply Z;apply aE;refine bB fun _ _ Z=>?_;simp(disch:=omega);and_intros<;>(try omega);apply Z;apply aR;refine zk [1,4,7,8,9] ?_;refine aY (fun(k:Nat)=> [(9,.d (.int k))]) [4,6,9,10,11,12,13,14,15,16] (fun(k:Nat)=>k<=l.length/\has c (l.take k)=false) (fun(k:Nat)=>l.length - k) (0) (by simp <;> rfl) ?_ ?_ ?_
 .simp
 .simp [has]
 rintro k ⟨hk,hh⟩;simp only [aQ,aO];refine bB fun _ _ Z=>?_;simp(disch:=omega);apply Z;apply aE;refine zI ?_ ?_<;>intro c1<;>try simp at c1
 .apply jM;refine bB fun _ _ Z=>?_;simp(disch:=omega);and_intros<;>(try omega);apply Z;refine bB fun _ _ Z=>?_;simp(disch:=omega);apply Z;refine zI ?_ ?_<;>intro c2<;>try simp at c2
  .refine bB fun _ _ Z=>?_;simp(disch:=omega);apply Z;apply aC;simp [aH];exact Jt c1 c2
  apply mS;refine pF fun _ _ Z=>?_;simp(disch:=omega);and_intros<;>(try omega);apply Z;refine zq (k+1) ?_ ?_ ?_
  .exact⟨by omega,by rw [bL l k (by omega),Cm,hh];simp [*]⟩
  .try dsimp only
   omega
  simp(disch:=omega)
 apply zE;refine bB fun _ _ Z=>?_;simp(disch:=omega);apply Z;apply aC;simp [aH];rw [bZ (by omega)] at hh;exact hh
@[simp] abbrev q29_1:Cfg:=⟨[4,5,18,23],[],[],[],[]⟩
theorem aJw(l:Ls)(c:ByteArray)(σ:List (List D))(hl:l.length<=1000000):Ct prog 78 [dl l,D.str c] σ (fun r σ'=>r=dlo (kS l c)/\σ'=σ):=by
 refine zf func78 ?_;refine zr q29_1 fun _ _ Z=>?_;simp(disch:=omega);apply Z;refine zr q29_1 fun _ _ Z=>?_;simp(disch:=omega);and_intros<;>(try omega);apply Z;apply aE;refine zr q29_1 fun _ _ Z=>?_;simp(disch:=omega);and_intros<;>(try omega);apply Z;apply aR;refine zk [1,4,5,9,10,11] ?_;refine aY (fun(k:Nat)=> [(11,.d (.int k)),(5,.d (dlo (kS (l.take k) c)))]) [5,7,11,12,13,14,15,16,17,18,19,20,21,22] (fun(k:Nat)=>k<=l.length) (fun(k:Nat)=>l.length - k) (0) (by simp <;> rfl) ?_ ?_ ?_
 .simp [kS]
 .simp
 rintro k hk;simp only [aQ,aO];have hcl:=Ou (l.take k) c;simp only [bG] at hcl;refine zr q29_1 fun _ _ Z=>?_;simp(disch:=omega);apply Z;apply aE;refine zI ?_ ?_<;>intro c1<;>try simp at c1
 .apply jM;refine zr q29_1 fun _ _ Z=>?_;simp(disch:=omega);and_intros<;>(try omega);apply Z;refine zr q29_1 fun _ _ Z=>?_;simp(disch:=omega);apply Z;refine zI ?_ ?_<;>intro c2<;>try simp at c2
  .refine zk [1,4,5,7,9,10,11] ?_;refine zt q29_1 fun _ _ Z=>?_;simp(disch:=omega);and_intros<;>(try omega);apply Z;apply zB;refine zk [1,4,5,9,10,11] ?_;refine zt q29_1 fun _ _ Z=>?_;simp(disch:=omega);and_intros<;>(try omega);apply Z;refine zq (k+1) ?_ ?_ ?_
   .omega
   .try dsimp only
    omega
   simp(disch:=omega)[Ly,c2]
  apply mS;refine zk [1,4,5,9,10,11] ?_;refine zt q29_1 fun _ _ Z=>?_;simp(disch:=omega);and_intros<;>(try omega);apply Z;refine zq (k+1) ?_ ?_ ?_
  .omega
  .try dsimp only
   omega
  simp(disch:=omega)[Ly,c2]
 apply zE;refine zr q29_1 fun _ _ Z=>?_;simp(disch:=omega);apply Z;apply aC;simp [aH];rw [bZ (by omega)]
theorem aHr(l:Ls)(c:ByteArray)(σ:List (List D))(hl:l.length<=9223372036854775807):Ct prog 255 [dl l,D.str c] σ (fun r σ'=>r= .int (Zv c l)/\σ'=σ):=by
 refine zf func255 ?_;refine bB fun _ _ Z=>?_;simp(disch:=omega);apply Z;apply aE;refine bB fun _ _ Z=>?_;simp(disch:=omega);and_intros<;>(try omega);apply Z;apply aR;refine zk [0,1,4,7,8] ?_;refine aY (fun(k:Nat)=> [(8,.d (.int k))]) [4,5,8,9,10,11,12,13,14,15,16,17,18] (fun(k:Nat)=>k<=l.length/\has c (l.take k)=false) (fun(k:Nat)=>l.length - k) (0) (by simp <;> rfl) ?_ ?_ ?_
 .simp
 .simp [has]
 rintro k ⟨hk,hh⟩;simp only [aQ,aO];refine bB fun _ _ Z=>?_;simp(disch:=omega);apply Z;apply aE;refine zI ?_ ?_<;>intro c1<;>try simp at c1
 .apply jM;refine bB fun _ _ Z=>?_;simp(disch:=omega);apply Z;refine bB fun _ _ Z=>?_;simp(disch:=omega);and_intros<;>(try omega);apply Z;refine zI ?_ ?_<;>intro c2<;>try simp at c2
  .refine zk [0,1,5,7,8] ?_;refine bB fun _ _ Z=>?_;simp(disch:=omega);apply Z;apply aC;simp [aH];exact(aQt c1 hh c2).symm
  apply mS;refine zk [0,1,7,8] ?_;refine pF fun _ _ Z=>?_;simp(disch:=omega);and_intros<;>(try omega);apply Z;refine zq (k+1) ?_ ?_ ?_
  .exact⟨by omega,by rw [bL l k (by omega),Cm,hh];simp;exact fun e=>c2 e.symm⟩
  .try dsimp only
   omega
  simp(disch:=omega)
 apply zE;refine bB fun _ _ Z=>?_;simp(disch:=omega);apply Z;apply aC;simp [aH];rw [bZ (by omega)] at hh;exact(aG8 hh).symm
theorem Ug(l:Ls)(c:ByteArray)(σ:List (List D))(hl:l.length<=9223372036854775807):Ct prog 229 [dl l,D.str c] σ (fun r σ'=>r= .bool (has c l)/\σ'=σ):=by
 refine zf func229 ?_;refine bB fun _ _ Z=>?_;simp;apply Z;refine bB fun _ _ Z=>?_;refine zs 2 fun _ Y=>?_;simp;apply Y;refine aF fun _ Y=>?_;simp;refine cT (aHr _ _ _ hl) ?_;apply Y;simp;apply Z;apply aC;simp [aH,aL3]
theorem xZ(l:Ls)(c:ByteArray)(σ:List (List D))(hl:l.length<=9223372036854775807):Ct prog 195 [dl l,D.str c] σ (fun r σ'=>r= .bool (has c l)/\σ'=σ):=by
 refine zf func195 ?_;refine bB fun _ _ Z=>?_;simp;apply Z;refine bB fun _ _ Z=>?_;refine zs 2 fun _ Y=>?_;simp;apply Y;refine aF fun _ Y=>?_;simp;refine cT (Ug _ _ _ hl) ?_;apply Y;simp;apply Z;apply aC;simp[aH]
theorem Mj(l:Ls)(σ:List (List D))(hl:l.length<=1000000):Ct prog 152 [dl l] σ (fun r σ'=>r=dlo l/\σ'=σ):=by
 refine zf func152 ?_;refine zr ⟨[2],[],[],[],[]⟩ fun _ _ Z=>?_;simp;apply Z;apply aE;refine zr ⟨[2],[],[],[],[]⟩ fun _ _ Z=>?_;refine zs 1 fun _ Y=>?_;simp;apply Y;refine aF fun _ Y=>?_;simp;refine⟨Y _ ?_,fun e1=>Y _ ?_⟩
 .simp only [eJ];apply Z;refine bA (t:=false) (by simp) (fun h=>by cases h) (fun _=>?_);apply zA;refine zr ⟨[2],[],[],[],[]⟩ fun _ _ Z=>?_;simp;and_intros<;>(try omega);apply Z;apply aC;simp [aH]
 simp only [eJ];apply Z;refine bA (t:=true) (by simp) (fun _=>?_) (fun h=>by cases h);refine zr ⟨[2],[],[],[],[]⟩ fun _ _ Z=>?_;simp;apply Z;apply aC;simp [aH,e1]
@[simp] abbrev q29_2:Cfg:=⟨[4,5,12,16],[],[],[],[]⟩
theorem aJn(l:Ls)(c:ByteArray)(σ:List (List D))(hl:l.length<=1000000):Ct prog 186 [dl l,D.str c] σ (fun r σ'=>r=dlo (rN l c)/\σ'=σ):=by
 refine zf func186 ?_;refine zr q29_2 fun _ _ Z=>?_;simp;apply Z;refine zr q29_2 fun _ _ Z=>?_;refine zs 1 fun _ Y=>?_;simp;apply Y;refine aF fun _ Y=>?_;simp;refine cT (Mj _ _ hl) ?_;apply Y;simp;apply Z;apply aE;refine zr q29_2 fun _ _ Z=>?_;refine zs 2 fun _ Y=>?_;simp;apply Y;refine aF fun _ Y=>?_;simp;refine cT (xZ l _ _ (by omega)) ?_;apply Y;simp;apply Z;refine zI ?_ ?_<;>intro c1<;>try simp at c1
 .refine zt q29_2 fun _ _ Z=>?_;simp;and_intros<;>(try omega);apply Z;apply fW;refine zk [4,5] ?_;refine zr q29_2 fun _ _ Z=>?_;simp;apply Z;apply aC;simp [aH,rN,c1]
 apply zA;refine zr q29_2 fun _ _ Z=>?_;simp;apply Z;apply aC;simp [aH,rN,c1]
theorem Mv(l:Ls)(p:ByteArray->Bool)(f:FuncId)(caps:List D)(m cap:Nat)(rest:List D)(σ:List (List D))(hl:l.length<=9223372036854775807)(hσ:σ[m]?=some (l.map D.str++rest))(hcp:∀d∈caps,d.plain=true)(hcs:caps.map D.strip=caps)(hp:∀x τ,Ct prog f (D.str x::caps) τ (fun r τ'=>r= .bool (p x)/\τ'=τ)):Ct prog 226 [.slo m 0 l.length cap,.clo (.func f) [] caps] σ (fun r σ'=>r= .int (wR p l)/\σ'=σ):=by
 refine zf func226 ?_;refine zr ⟨[],[],[],[7,14],[]⟩ fun _ _ Z=>?_;simp(disch:=omega)[hσ,hcs,fL];apply Z;apply aE;refine zr ⟨[],[],[],[7,14],[]⟩ fun _ _ Z=>?_;simp(disch:=omega)[hσ,hcs,fL];and_intros<;>(try omega);apply Z;apply aR;refine zk [0,1,4,7,8] ?_;refine aY (fun(k:Nat)=> [(8,.d (.v (.int .i64 (k:Int))))]) [4,5,8,9,10,11,12,13,14,15,16,17,18] (fun(k:Nat)=>k<=l.length/\∀x∈l.take k,p x=false) (fun(k:Nat)=>l.length - k) (0) (by simp <;> rfl) ?_ ?_ ?_
 .simp
 .simp
 rintro k ⟨hk,hh⟩;simp only [aQ,aO];refine zr ⟨[],[],[],[7,14],[]⟩ fun _ _ Z=>?_;simp(disch:=omega)[hσ,hcs,fL];apply Z;apply aE;refine zI ?_ ?_<;>intro c1<;>try simp at c1
 .apply jM;refine zr ⟨[],[],[],[7,14],[]⟩ fun _ _ Z=>?_;simp(disch:=omega)[hσ,hcs,fL];apply Z;refine zr ⟨[],[],[],[7,14],[]⟩ fun _ _ Z=>?_;refine zs 5 fun _ Y=>?_;simp(disch:=omega)[hσ,hcs,fL];and_intros<;>(try omega);apply Y;refine aF fun _ Y=>?_;simp(disch:=omega)[hσ,hcs,fL];refine⟨hcp,?_⟩;refine cT (hp l[k] _) ?_;apply Y;simp only [eJ];apply Z;refine zI ?_ ?_<;>intro c2<;>try simp at c2
  .refine zk [0,1,5,7,8] ?_;refine zr ⟨[],[],[],[7,14],[]⟩ fun _ _ Z=>?_;simp(disch:=omega)[hσ,hcs,fL];apply Z;apply aC;simp [aH];exact(Iv c1 hh c2).symm
  apply mS;refine zk [0,1,7,8] ?_;refine zt ⟨[],[],[],[7,14],[]⟩ fun _ _ Z=>?_;simp(disch:=omega)[hσ,hcs,fL];and_intros<;>(try omega);apply Z;refine zq (k+1) ?_ ?_ ?_
  .exact⟨by omega,uU (by omega) hh c2⟩
  .try dsimp only
   omega
  simp(disch:=omega)[hσ,hcs,fL]
 apply zE;refine zr ⟨[],[],[],[7,14],[]⟩ fun _ _ Z=>?_;simp(disch:=omega)[hσ,hcs,fL];apply Z;apply aC;simp [aH];rw [bZ (by omega)] at hh;exact(yF hh).symm
theorem Mx(f:FuncId)(caps:List D)(σ:List (List D))(hcp:∀d∈caps,d.plain=true):Ct prog 226 [.xl 0,.clo (.func f) [] caps] σ (fun r σ'=>r= .int (-1)/\σ'=σ):=by
 refine zf func226 ?_;refine zr ⟨[],[],[],[7],[]⟩ fun _ _ Z=>?_;simp;apply Z;apply aE;refine zr ⟨[],[],[],[7],[]⟩ fun _ _ Z=>?_;simp;and_intros<;>(try omega);apply Z;apply aR;refine zk [0,1,4,7,8] ?_;refine aY (fun(k:Nat)=> [(8,.d (.int 0))]) [4,5,8,9,10,11,12,13,14,15,16,17,18] (fun(k:Nat)=>k=0) (fun(k:Nat)=>0) (0) (by simp <;> rfl) ?_ ?_ ?_
 .simp
 .rfl
 rintro k hk;simp only [aQ,aO];refine zr ⟨[],[],[],[7],[]⟩ fun _ _ Z=>?_;simp;apply Z;apply aE;refine zI ?_ ?_<;>intro c1<;>try simp at c1
 apply zE;refine zr ⟨[],[],[],[7],[]⟩ fun _ _ Z=>?_;simp;apply Z;apply aC;simp [aH]
theorem Wg(p:ByteArray->Bool)(l k:Ls)(rest:List D):List.take k.length ((k++l).map D.str++rest)=k.map D.str:=by
 rw [cE,bW,Pj (by simp)];rw [bZ (by simp)]
@[simp] abbrev q29_3:Cfg:=⟨[4,13],[],[],[18,24,33,38,41],[]⟩
theorem Kz(l:Ls)(p:ByteArray->Bool)(f:FuncId)(caps:List D)(σ:List (List D))(hl:l.length<=1000000)(hne:l≠ [])(hcp:∀d∈caps,d.plain=true)(hcs:caps.map D.strip=caps)(hp:∀x τ,Ct prog f (D.str x::caps) τ (fun r τ'=>r= .bool (p x)/\τ'=τ)):Ct prog 268 [.xs 1 (l.map D.str),.clo (.func f) [] caps] σ (fun r σ'=>r= .xs 1 ((l.filter fun x=> !p x).map D.str)/\σ'=σ++ [[]]):=by
 refine zf func268 ?_;refine sO 0 1 rfl (by decide) fun cap rest hcap hcm hrest hk0 hes=>?_;simp only [bQ] at hcap hrest |-;rw [uH (f:=D.str) (fun _=>rfl)];refine zr q29_3 fun _ _ Z=>?_;simp(disch:=first|omega|assumption)[hcs,fL,iU];apply Z;refine zr q29_3 fun _ _ Z=>?_;refine zs 2 fun _ Y=>?_;simp(disch:=first|omega|assumption)[hcs,fL,iU];apply Y;refine aF fun _ Y=>?_;simp(disch:=first|omega|assumption)[hcs,fL,iU];refine cT (Mv l p f caps σ.length cap rest _ (by omega) (by simp) hcp hcs hp) ?_;apply Y;simp(disch:=first|omega|assumption)[hcs,fL,iU];apply Z;apply aE;refine zr q29_3 fun _ _ Z=>?_;simp(disch:=first|omega|assumption)[hcs,fL,iU];apply Z;refine zI ?_ ?_<;>intro c1<;>try simp at c1
 .refine zr q29_3 fun _ _ Z=>?_;simp(disch:=first|omega|assumption)[hcs,fL,iU];apply Z;refine fI 4 1 σ.length l.length cap (l.map D.str) (l.map D.str++rest) (by simp <;> rfl) (by simp) (by omega) (by simp [hrest];omega) (by simp) (by simp) (by rw [uH (fun _=>rfl)];exact dC _ _) ?_;simp only [tD];apply aC;simp [aH];rcases Bg p l with ⟨_,h⟩ | ⟨k,h,_⟩
  .rw [h]
  omega
 obtain⟨k0,e0,e1,e2,e3⟩:=Ka c1;rw [e0];apply zA;apply aE;refine zr q29_3 fun _ _ Z=>?_;simp(disch:=first|omega|assumption)[hcs,fL,iU];and_intros<;>try first|omega|exact rfl
 apply Z;apply aR;refine zk [0,1,4,5,6] ?_;refine kI (fun(j:Nat)=> [(5,.d (.v (.int .i64 ((kp p l j).length:Int)))),(6,.d (.v (.int .i64 (j:Int))))]) (fun(j:Nat)=> []) (fun(j:Nat)=> [(σ.length,(ar p l j).map D.str++rest)]) [5,6,7,16,17,18,19,20,21,22,23,24,25,26,27,28,29,30,31,32,33,34,35] (fun(j:Nat)=>j<=l.length) (fun(j:Nat)=>l.length - j) (k0+1) (by simp <;> rfl) ?_ (by simp) (by simp [e1]) ?_ ?_
 .simp [e1,e2]
 .omega
 rintro j hj;simp only [aQ,aO,lE,jP,gD,fY];have hkl:=Wu p l j hj;have hal:=Te p l j;apply aE;refine zr q29_3 fun _ _ Z=>?_;simp(disch:=first|omega|assumption)[hcs,fL,iU];and_intros<;>try first|omega|exact rfl
 apply Z;refine zI ?_ ?_<;>intro c2<;>try simp at c2
 .apply jM;refine zr q29_3 fun _ _ Z=>?_;simp(disch:=first|omega|assumption)[hcs,fL,iU];and_intros<;>try first|omega|exact rfl
  apply Z;refine zk [0,1,4,5,6,7] ?_;refine zr q29_3 fun _ _ Z=>?_;refine zs 2 fun _ Y=>?_;simp(disch:=first|omega|assumption)[hcs,fL,iU];apply Y;refine aF fun _ Y=>?_;simp(disch:=first|omega|assumption)[hcs,fL,iU];simp only [aL5 p l j (by omega)];refine⟨hcp,?_⟩;refine cT (hp l[j] _) ?_;apply Y;simp(disch:=first|omega|assumption)[hcs,fL,iU];apply Z;refine zI ?_ ?_<;>intro c3<;>try simp at c3
  .refine zr q29_3 fun _ _ Z=>?_;simp(disch:=first|omega|assumption)[hcs,fL,iU];and_intros<;>try first|omega|exact rfl
   apply Z;refine zk [0,1,4,5,6] ?_;refine zt q29_3 fun _ _ Z=>?_;simp(disch:=first|omega|assumption)[hcs,fL,iU];and_intros<;>try first|omega|exact rfl
   apply Z;apply zB;refine zt q29_3 fun _ _ Z=>?_;simp(disch:=first|omega|assumption)[hcs,fL,iU];and_intros<;>try first|omega|exact rfl
   apply Z;refine fB (j+1) ?_ ?_ (dW rfl ?_ (by simp) (by rw [<- (Hv p l j (by omega) c3).1];simp(disch:=omega) [aMy,hal]))
   .omega
   .try dsimp only
    omega
   simp(disch:=first|omega|assumption)[hcs,fL,iU,(Hv p l j (by omega) c3).2]
  apply mS;refine zt q29_3 fun _ _ Z=>?_;simp(disch:=first|omega|assumption)[hcs,fL,iU];and_intros<;>try first|omega|exact rfl
  apply Z;refine fB (j+1) ?_ ?_ (dW rfl ?_ (by simp) (by simp [(Bo p l j (by omega) c3).1]))
  .omega
  .try dsimp only
   omega
  simp(disch:=first|omega|assumption)[hcs,fL,iU,(Bo p l j (by omega) c3).2]
 apply zE;refine zr q29_3 fun _ _ Z=>?_;simp(disch:=first|omega|assumption)[hcs,fL,iU];and_intros<;>try first|omega|exact rfl
 apply Z;refine zk [0,4,5] ?_;refine zr q29_3 fun _ _ Z=>?_;simp(disch:=first|omega|assumption)[hcs,fL,iU];and_intros<;>try first|omega|exact rfl
 apply Z;refine fI 4 1 σ.length (kp p l j).length cap ((kp p l j).map D.str) ((kp p l j).map D.str++(jK #[.string ⟨#[]⟩] (l.length - (kp p l j).length)++rest)) (by simp <;> rfl) (by rw [show List.map D.str (kp p l j)=List.take (kp p l j).length (List.map D.str (ar p l j)++rest)from(Wg p _ _ rest).symm];simp [jX (z:=#[.string ⟨#[]⟩]) (k:=1) rfl,show(kp p l j).length+(l.length - (kp p l j).length)=l.length by omega,aLd D.str (ar p l j) rest l.length hal.symm]) (by omega) (by simp [hrest,jX (z:=#[.string ⟨#[]⟩]) (k:=1) rfl];omega) (by simp) (by simp) (by rw [uH (fun _=>rfl)];exact dC _ _) ?_;simp only [tD];apply aC;simp [aH];unfold kp;rw [bZ (by omega)]
theorem Jv(f:FuncId)(caps:List D)(σ:List (List D))(hcp:∀d∈caps,d.plain=true):Ct prog 268 [.xs 1 [],.clo (.func f) [] caps] σ (fun r σ'=>r= .xs 1 []/\σ'=σ):=by
 refine zf func268 ?_;refine zr ⟨[4,13],[],[],[],[]⟩ fun _ _ Z=>?_;simp;apply Z;refine zr ⟨[4,13],[],[],[],[]⟩ fun _ _ Z=>?_;refine zs 2 fun _ Y=>?_;simp;apply Y;refine aF fun _ Y=>?_;simp;refine cT (Mx f caps _ hcp) ?_;apply Y;simp;apply Z;apply aE;refine zr ⟨[4,13],[],[],[],[]⟩ fun _ _ Z=>?_;simp;apply Z;refine zI ?_ ?_<;>intro c1<;>try simp at c1
 refine zr ⟨[4,13],[],[],[],[]⟩ fun _ _ Z=>?_;simp;apply Z;apply aC;simp[aH]
theorem aOq(N:Nat)(l:Ls):Sc N (.xs 1 (l.map D.str)):=Sc.xs fun d hd e he=>by
 obtain⟨a,_,rfl⟩:=aV.1 hd;simp [D.cells] at he;subst he;exact Sc.v _
theorem Mt(l:Ls)(p:ByteArray->Bool)(f:FuncId)(caps:List D)(σ:List (List D))(hl:l.length<=1000000)(hcp:∀d∈caps,d.plain=true)(hcs:caps.map D.strip=caps)(hp:∀x τ,Ct prog f (D.str x::caps) τ (fun r τ'=>r= .bool (p x)/\τ'=τ)):
  Ct prog 268 [.xs 1 (l.map D.str),.clo (.func f) [] caps] σ (fun r σ'=>r= .xs 1 ((l.filter fun x=> !p x).map D.str)/\σ'=σ):=by
 by_cases hne:l= []
 .subst hne;exact Jv f caps σ hcp
 exact(Kz l p f caps σ hl hne hcp hcs hp).trim fun r σ' ⟨hr,hs⟩=>⟨σ, [[]],hs,rfl,by rw [hr];exact aOq _ _,fun n cs h=> .inl h,hr,rfl⟩
theorem aAo(l:Ls)(σ:List (List D))(hl:l.length<=1000000):Ct prog 152 [dl l] σ (fun r σ'=>wP 1 (l.map D.str) r/\σ'=σ):=by
 refine zf func152 ?_;refine zr ⟨[2],[],[],[7],[]⟩ fun _ _ Z=>?_;simp(disch:=first|omega|assumption);apply Z;apply aE;refine zr ⟨[2],[],[],[7],[]⟩ fun _ _ Z=>?_;refine zs 1 fun _ Y=>?_;simp(disch:=first|omega|assumption);apply Y;refine aF fun _ Y=>?_;simp(disch:=first|omega|assumption);refine⟨Y _ ?_,fun e1=>Y _ ?_⟩
 .simp only [eJ];apply Z;refine bA (t:=false) (by simp) (fun h=>by cases h) (fun _=>?_);apply zA;refine zr ⟨[2],[],[],[7],[]⟩ fun _ _ Z=>?_;simp(disch:=first|omega|assumption);and_intros<;>try first|omega|exact rfl
  apply Z;apply aC;simp [aH,wP]
 simp only [eJ];apply Z;refine bA (t:=true) (by simp) (fun _=>?_) (fun h=>by cases h);refine zr ⟨[2],[],[],[7],[]⟩ fun _ _ Z=>?_;simp(disch:=first|omega|assumption);apply Z;apply aC;simp [aH,wP,e1]
theorem aGd(l:Ls)(σ:List (List D))(hl:l.length<=1000000):Ct prog 152 [dl l] σ (fun r σ'=>r= .xs 1 (l.map D.str)/\σ'=σ):=(aAo l σ hl).toX fun _ _ h=>h
theorem aAf(l:Ls)(p:ByteArray->Bool)(f:FuncId)(caps:List D)(σ:List (List D))(hl:l.length<=1000000)(hcp:∀d∈caps,d.plain=true)(hcs:caps.map D.strip=caps)(hp:∀x τ,Ct prog f (D.str x::caps) τ (fun r τ'=>r= .bool (p x)/\τ'=τ)):Ct prog 256 [dl l,.clo (.func f) [] caps] σ (fun r σ'=>r= .xs 1 ((l.filter fun x=> !p x).map D.str)/\σ'=σ):=by
 refine zf func256 ?_;refine zr ⟨[4,7,8],[],[],[],[]⟩ fun _ _ Z=>?_;simp;apply Z;refine zr ⟨[4,7,8],[],[],[],[]⟩ fun _ _ Z=>?_;refine zs 1 fun _ Y=>?_;simp;apply Y;refine aF fun _ Y=>?_;simp;refine cT (aGd l _ hl) ?_;apply Y;refine zs 1 fun _ Y=>?_;simp;apply Y;refine aF fun _ Y=>?_;simp;refine cT (Mt l p f caps _ hl hcp hcs hp) ?_;apply Y;simp;apply Z;apply aC;simp[aH]
theorem aJi(x c:ByteArray)(σ:List (List D))  :Ct prog 257 [D.str x,.adr [D.str c]] σ (fun r σ'=>r= .bool (decide (x=c))/\σ'=σ):=by
 refine zf func257 ?_;refine bB fun _ _ Z=>?_;simp;apply Z;refine bB fun _ _ Z=>?_;simp;apply Z;apply aC;simp[aH]
theorem aD3(l:Ls)(c:ByteArray)(σ:List (List D))(hl:l.length<=1000000):Ct prog 230 [dl l,D.str c] σ (fun r σ'=>r= .xs 1 ((kS l c).map D.str)/\σ'=σ):=by
 refine zf func230 ?_;refine zr ⟨[4],[3],[],[],[]⟩ fun _ _ Z=>?_;simp;apply Z;refine zr ⟨[4],[3],[],[],[]⟩ fun _ _ Z=>?_;refine zs 2 fun _ Y=>?_;simp;and_intros<;>(try omega);apply Y;refine aF fun _ Y=>?_;simp;refine cT (aAf l (fun x=>decide (x=c)) 257 [.adr [D.str c]] _ hl (by simp) (by simp) (fun x τ=>aJi x c τ)) ?_;apply Y;simp;apply Z;apply aC;simp [aH,kS]
theorem aOh(l:Ls)(c:ByteArray)(σ:List (List D))(hl:l.length<=1000000):Ct prog 230 [dl l,D.str c] σ (fun r σ'=>r=dl (kS l c)/\σ'=σ):=(aD3 l c σ hl).freeze fun _ _ h=>h
end Go.Proofs.YtbgfljpnhhdkoaaGreat
