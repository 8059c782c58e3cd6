import Derived.Test.YtbgfljpnhhdkoaaGreatVmTab
import Derived.Test.YtbgfljpnhhdkoaaGreatVmZ
import Derived.Test.YtbgfljpnhhdkoaaGreatVmX7
set_option linter.all false
set_option maxRecDepth 20000
set_option maxHeartbeats 8000000
open Go.Proofs.Tryz
namespace Go.Proofs.YtbgfljpnhhdkoaaGreat
open Go Go.Vm
variable {c s:ByteArray}{k:Nat}{p:Int->Bool}
def lI(s:ByteArray)(k:Nat):Int:=((s.data[k]?.getD 0).toNat:Int)
def Vc(p:Int->Bool)(s:ByteArray):Bool:=(List.range s.size).all fun k=>p (lI s k)
theorem aNf (h:∀j,j<k->p (lI s j)=true)(hk:s.size<=k):Vc p s=true:=by
 unfold Vc;rw [gF];intro j hj;exact h j (by have:=fH.1 hj;omega)
theorem aLa (h:p (lI s k)=false)(hk:k<s.size):Vc p s=false:=by
 rw [<- Gu];intro hh;unfold Vc at hh;rw [gF] at hh;have:=hh k (fH.2 hk);rw [h] at this;cases this
theorem aVf (h:Vc p s=true)(k:Nat)(hk:k<s.size):p (lI s k)=true:=by
 unfold Vc at h;rw [gF] at h;exact h k (fH.2 hk)
theorem Ks (h:∀j,j<k->p (lI s j)=true)(h2:p (lI s k)=true):∀j,j<k+1->p (lI s j)=true:=fun j hj=>by
 rcases Ef.1 hj with h1 | rfl
 .exact h j h1
 exact h2
def Oj(x0:Int)(x1:Int)(x2:Int):Int:=max x1 (min x0 x2)
theorem aP4(x0:Int)(x1:Int)(x2:Int)(σ:List (List D))  :Ct prog 131 [.v (.int .i64 x0),.v (.int .i64 x1),.v (.int .i64 x2)] σ (fun r σ'=>r= .v (.int .i64 (Oj x0 x1 x2))/\σ'=σ):=by
 refine zf func131 ?_;refine bE fun all K Z=>?_;simp;apply Z;clear Z K all;refine bE fun all K Z=>?_;simp;and_intros<;>(try omega);apply Z;clear Z K all;apply aD;first | (simp [aK,Oj];done) | (simp [aK,Oj];done) | (simp [aK];unfold Oj;(repeat' split) <;> first | (exfalso;omega) | (simp_all;done)) | (simp [aK,Oj, *];done) | (simp_all [aK,Oj];done) | (simp_all [aK,Oj];omega) | (simp [aK,Oj] <;> split <;> omega)
def Ny(x0:Int):Int:=max (-2147483648) (min x0 2147483647)
theorem aTs(x0:Int)(σ:List (List D))  :Ct prog 238 [.v (.int .i64 x0)] σ (fun r σ'=>r= .v (.int .i64 (Ny x0))/\σ'=σ):=by
 refine zf func238 ?_;refine bE fun all K Z=>?_;simp;apply Z;clear Z K all;refine bE fun all K Z=>?_;simp;and_intros<;>(try omega);apply Z;clear Z K all;apply aD;first | (simp [aK,Ny];done) | (simp [aK,Ny];done) | (simp [aK];unfold Ny;(repeat' split) <;> first | (exfalso;omega) | (simp_all;done)) | (simp [aK,Ny, *];done) | (simp_all [aK,Ny];done) | (simp_all [aK,Ny];omega) | (simp [aK,Ny] <;> split <;> omega)
def sB(x0:Int):Int:=if x0 > 2147483647 then 2147483647
 else if x0<(-2147483648)then(-2147483648)
  else x0
theorem aRo(x0:Int)(σ:List (List D))  :Ct prog 74 [.v (.int .i64 x0)] σ (fun r σ'=>r= .v (.int .i64 (sB x0))/\σ'=σ):=by
 refine zf func74 ?_;refine bE fun all K Z=>?_;simp;apply Z;clear Z K all;apply aF;refine bE fun all K Z=>?_;simp;apply Z;clear Z K all;refine zI ?_ ?_<;>intro c1<;>try simp at c1
 .all_goals try (exfalso;omega)
  all_goals
   refine bE fun all K Z=>?_;simp;apply Z;clear Z K all;apply aD;first | (simp [aK,sB,c1];done) | (simp [aK,sB];done) | (simp [aK];unfold sB;(repeat' split) <;> first | (exfalso;omega) | (simp_all;done)) | (simp [aK,sB, *];done) | (simp_all [aK,sB];done) | (simp_all [aK,sB];omega) | (simp [aK,sB] <;> split <;> omega)
 all_goals try (exfalso;omega)
 all_goals
  apply zA;apply aF;refine bE fun all K Z=>?_;simp;apply Z;clear Z K all;refine zI ?_ ?_<;>intro c2<;>try simp at c2
  .all_goals try (exfalso;omega)
   all_goals
    refine bE fun all K Z=>?_;simp;apply Z;clear Z K all;apply aD;first | (simp [aK,sB,c1,c2];done) | (simp [aK,sB];done) | (simp [aK];unfold sB;(repeat' split) <;> first | (exfalso;omega) | (simp_all;done)) | (simp [aK,sB, *];done) | (simp_all [aK,sB];done) | (simp_all [aK,sB];omega) | (simp [aK,sB] <;> split <;> omega)
  all_goals try (exfalso;omega)
  all_goals
   apply zA;refine bE fun all K Z=>?_;simp;apply Z;clear Z K all;apply aD;first | (simp [aK,sB,c1,c2];done) | (simp [aK,sB];done) | (simp [aK];unfold sB;(repeat' split) <;> first | (exfalso;omega) | (simp_all;done)) | (simp [aK,sB, *];done) | (simp_all [aK,sB];done) | (simp_all [aK,sB];omega) | (simp [aK,sB] <;> split <;> omega)
def lK(x0:Int):Bool:=if x0>=97 then decide (x0<=122)
 else false
theorem Qr(x0:Int)(σ:List (List D))  :Ct prog 228 [.v (.int .u8 x0)] σ (fun r σ'=>r= .v (.bool (lK x0))/\σ'=σ):=by
 refine zf func228 ?_;refine bE fun all K Z=>?_;simp;apply Z;clear Z K all;refine pB ⟨[],[],[],[],[]⟩ fun all hall K Z=>?_;have ga2:aT all 2=some 5:=hall 2;clear hall;refine zs 3 fun K' Y=>?_;simp[ga2];apply Y;clear Y K';refine zb 5 ?_ ?_<;>intro g1<;>try simp at g1
 .all_goals try (exfalso;omega)
  all_goals
   simp[ga2];apply Z;clear Z K ga2 all;apply aD;first | (simp [aK,lK,g1];done) | (simp [aK,lK];done) | (simp [aK];unfold lK;(repeat' split) <;> first | (exfalso;omega) | (simp_all;done)) | (simp [aK,lK, *];done) | (simp_all [aK,lK];done) | (simp_all [aK,lK];omega) | (simp [aK,lK] <;> split <;> omega)
 all_goals try (exfalso;omega)
 all_goals
  simp[ga2];apply Z;clear Z K ga2 all;apply aD;first | (simp [aK,lK,g1];done) | (simp [aK,lK];done) | (simp [aK];unfold lK;(repeat' split) <;> first | (exfalso;omega) | (simp_all;done)) | (simp [aK,lK, *];done) | (simp_all [aK,lK];done) | (simp_all [aK,lK];omega) | (simp [aK,lK] <;> split <;> omega)
def rN(x0:Int):Bool:=if x0>=48 then decide (x0<=57)
 else false
theorem aJb(x0:Int)(σ:List (List D))  :Ct prog 267 [.v (.int .u8 x0)] σ (fun r σ'=>r= .v (.bool (rN x0))/\σ'=σ):=by
 refine zf func267 ?_;refine bE fun all K Z=>?_;simp;apply Z;clear Z K all;refine pB ⟨[],[],[],[],[]⟩ fun all hall K Z=>?_;have ga2:aT all 2=some 5:=hall 2;clear hall;refine zs 3 fun K' Y=>?_;simp[ga2];apply Y;clear Y K';refine zb 5 ?_ ?_<;>intro g1<;>try simp at g1
 .all_goals try (exfalso;omega)
  all_goals
   simp[ga2];apply Z;clear Z K ga2 all;apply aD;first | (simp [aK,rN,g1];done) | (simp [aK,rN];done) | (simp [aK];unfold rN;(repeat' split) <;> first | (exfalso;omega) | (simp_all;done)) | (simp [aK,rN, *];done) | (simp_all [aK,rN];done) | (simp_all [aK,rN];omega) | (simp [aK,rN] <;> split <;> omega)
 all_goals try (exfalso;omega)
 all_goals
  simp[ga2];apply Z;clear Z K ga2 all;apply aD;first | (simp [aK,rN,g1];done) | (simp [aK,rN];done) | (simp [aK];unfold rN;(repeat' split) <;> first | (exfalso;omega) | (simp_all;done)) | (simp [aK,rN, *];done) | (simp_all [aK,rN];done) | (simp_all [aK,rN];omega) | (simp [aK,rN] <;> split <;> omega)
def plain(x0:Int):Bool:=if(lK x0)=true then true
 else if(rN x0)=true then true
  else decide (x0=45)
theorem aIh(x0:Int)(σ:List (List D))  :Ct prog 254 [.v (.int .u8 x0)] σ (fun r σ'=>r= .v (.bool (plain x0))/\σ'=σ):=by
 refine zf func254 ?_;refine bE fun all K Z=>?_;simp;apply Z;clear Z K all;refine pB ⟨[],[],[],[],[]⟩ fun all hall K Z=>?_;have ga2:aT all 2=some 5:=hall 2;have ga6:aT all 6=some 9:=hall 6;clear hall;refine zs 1 fun K' Y=>?_;simp[ga2,ga6];apply Y;clear Y K';refine aE fun K' Y=>?_;simp[ga2,ga6];refine cB (Qr x0 _) ?_;apply Y;clear Y K';refine zs 1 fun K' Y=>?_;simp[ga2,ga6];apply Y;clear Y K';refine zb 5 ?_ ?_<;>intro g1<;>try simp at g1
 .all_goals try (exfalso;omega)
  all_goals
   refine zs 4 fun K' Y=>?_;simp[ga2,ga6];apply Y;clear Y K';simp[ga2,ga6];apply Z;clear Z K ga2 ga6 all;apply aD;first | (simp [aK,plain,g1];done) | (simp [aK,plain];done) | (simp [aK];unfold plain;(repeat' split) <;> first | (exfalso;omega) | (simp_all;done)) | (simp [aK,plain, *];done) | (simp_all [aK,plain];done) | (simp_all [aK,plain];omega) | (simp [aK,plain] <;> split <;> omega)
 all_goals try (exfalso;omega)
 all_goals
  refine zs 1 fun K' Y=>?_;simp[ga2,ga6];apply Y;clear Y K';refine zg ga2 fun K' Y=>?_;simp[ga2,ga6];refine cB (aJb x0 _) ?_;apply Y;clear Y K';refine zs 2 fun K' Y=>?_;simp[ga2,ga6];apply Y;clear Y K';refine zb 9 ?_ ?_<;>intro g2<;>try simp at g2
  .all_goals try (exfalso;omega)
   all_goals
    simp[ga2,ga6];apply Z;clear Z K ga2 ga6 all;apply aD;first | (simp [aK,plain,g1,g2];done) | (simp [aK,plain];done) | (simp [aK];unfold plain;(repeat' split) <;> first | (exfalso;omega) | (simp_all;done)) | (simp [aK,plain, *];done) | (simp_all [aK,plain];done) | (simp_all [aK,plain];omega) | (simp [aK,plain] <;> split <;> omega)
  all_goals try (exfalso;omega)
  all_goals
   simp[ga2,ga6];apply Z;clear Z K ga2 ga6 all;apply aD;first | (simp [aK,plain,g1,g2];done) | (simp [aK,plain];done) | (simp [aK];unfold plain;(repeat' split) <;> first | (exfalso;omega) | (simp_all;done)) | (simp [aK,plain, *];done) | (simp_all [aK,plain];done) | (simp_all [aK,plain];omega) | (simp [aK,plain] <;> split <;> omega)
def eC (x0 : Int) : Bool := if x0 >= 97 then if x0 <= 122 then true
  else if x0>=48 then if x0<=57 then true
    else decide (x0=45)
   else decide (x0=45)
 else if x0>=48 then if x0<=57 then true
   else decide (x0=45)
  else decide (x0=45)
theorem aHd (x0 : Int) (σ : List (List D))  : Ct prog 216 [.v (.int .u8 x0)] σ (fun r σ' => r = .v (.bool (eC x0)) /\ σ' = σ) := by
 refine zf func216 ?_;refine bE fun all K Z=>?_;simp;apply Z;clear Z K all;refine pB ⟨[],[],[],[],[]⟩ fun all hall K Z=>?_;have ga2:aT all 2=some 5:=hall 2;have ga6:aT all 6=some 9:=hall 6;have ga9:aT all 9=some 12:=hall 9;have ga14:aT all 14=some 17:=hall 14;clear hall;refine zs 3 fun K' Y=>?_;simp[ga2,ga6,ga9,ga14];apply Y;clear Y K';refine zb 5 ?_ ?_<;>intro g1<;>try simp at g1
 .all_goals try (exfalso;omega)
  all_goals
   refine zs 4 fun K' Y=>?_;simp[ga2,ga6,ga9,ga14];apply Y;clear Y K';refine zb 9 ?_ ?_<;>intro g2<;>try simp at g2
   .all_goals try (exfalso;omega)
    all_goals
     refine zs 8 fun K' Y=>?_;simp[ga2,ga6,ga9,ga14];apply Y;clear Y K';simp[ga2,ga6,ga9,ga14];apply Z;clear Z K ga2 ga6 ga9 ga14 all;apply aD;first | (simp [aK,eC,g1,g2];done) | (simp [aK,eC];done) | (simp [aK];unfold eC;(repeat' split) <;> first | (exfalso;omega) | (simp_all;done)) | (simp [aK,eC, *];done) | (simp_all [aK,eC];done) | (simp_all [aK,eC];omega) | (simp [aK,eC] <;> split <;> omega)
   all_goals try (exfalso;omega)
   all_goals
    refine zs 3 fun K' Y=>?_;simp[ga2,ga6,ga9,ga14];apply Y;clear Y K';refine zb 12 ?_ ?_<;>intro g3<;>try simp at g3
    .all_goals try (exfalso;omega)
     all_goals
      refine zs 5 fun K' Y=>?_;simp[ga2,ga6,ga9,ga14];apply Y;clear Y K';refine zb 17 ?_ ?_<;>intro g4<;>try simp at g4
      .all_goals try (exfalso;omega)
       all_goals
        simp[ga2,ga6,ga9,ga14];apply Z;clear Z K ga2 ga6 ga9 ga14 all;apply aD;first | (simp [aK,eC,g1,g2,g3,g4];done) | (simp [aK,eC];done) | (simp [aK];unfold eC;(repeat' split) <;> first | (exfalso;omega) | (simp_all;done)) | (simp [aK,eC, *];done) | (simp_all [aK,eC];done) | (simp_all [aK,eC];omega) | (simp [aK,eC] <;> split <;> omega)
      all_goals try (exfalso;omega)
      all_goals
       simp[ga2,ga6,ga9,ga14];apply Z;clear Z K ga2 ga6 ga9 ga14 all;apply aD;first | (simp [aK,eC,g1,g2,g3,g4];done) | (simp [aK,eC];done) | (simp [aK];unfold eC;(repeat' split) <;> first | (exfalso;omega) | (simp_all;done)) | (simp [aK,eC, *];done) | (simp_all [aK,eC];done) | (simp_all [aK,eC];omega) | (simp [aK,eC] <;> split <;> omega)
    all_goals try (exfalso;omega)
    all_goals
     refine zs 5 fun K' Y=>?_;simp[ga2,ga6,ga9,ga14];apply Y;clear Y K';simp[ga2,ga6,ga9,ga14];apply Z;clear Z K ga2 ga6 ga9 ga14 all;apply aD;first | (simp [aK,eC,g1,g2,g3];done) | (simp [aK,eC];done) | (simp [aK];unfold eC;(repeat' split) <;> first | (exfalso;omega) | (simp_all;done)) | (simp [aK,eC, *];done) | (simp_all [aK,eC];done) | (simp_all [aK,eC];omega) | (simp [aK,eC] <;> split <;> omega)
 all_goals try (exfalso;omega)
 all_goals
  refine zs 4 fun K' Y=>?_;simp[ga2,ga6,ga9,ga14];apply Y;clear Y K';refine zs 3 fun K' Y=>?_;simp[ga2,ga6,ga9,ga14];apply Y;clear Y K';refine zb 12 ?_ ?_<;>intro g5<;>try simp at g5
  .all_goals try (exfalso;omega)
   all_goals
    refine zs 5 fun K' Y=>?_;simp[ga2,ga6,ga9,ga14];apply Y;clear Y K';refine zb 17 ?_ ?_<;>intro g6<;>try simp at g6
    .all_goals try (exfalso;omega)
     all_goals
      simp[ga2,ga6,ga9,ga14];apply Z;clear Z K ga2 ga6 ga9 ga14 all;apply aD;first | (simp [aK,eC,g1,g5,g6];done) | (simp [aK,eC];done) | (simp [aK];unfold eC;(repeat' split) <;> first | (exfalso;omega) | (simp_all;done)) | (simp [aK,eC, *];done) | (simp_all [aK,eC];done) | (simp_all [aK,eC];omega) | (simp [aK,eC] <;> split <;> omega)
    all_goals try (exfalso;omega)
    all_goals
     simp[ga2,ga6,ga9,ga14];apply Z;clear Z K ga2 ga6 ga9 ga14 all;apply aD;first | (simp [aK,eC,g1,g5,g6];done) | (simp [aK,eC];done) | (simp [aK];unfold eC;(repeat' split) <;> first | (exfalso;omega) | (simp_all;done)) | (simp [aK,eC, *];done) | (simp_all [aK,eC];done) | (simp_all [aK,eC];omega) | (simp [aK,eC] <;> split <;> omega)
  all_goals try (exfalso;omega)
  all_goals
   refine zs 5 fun K' Y=>?_;simp[ga2,ga6,ga9,ga14];apply Y;clear Y K';simp[ga2,ga6,ga9,ga14];apply Z;clear Z K ga2 ga6 ga9 ga14 all;apply aD;first | (simp [aK,eC,g1,g5];done) | (simp [aK,eC];done) | (simp [aK];unfold eC;(repeat' split) <;> first | (exfalso;omega) | (simp_all;done)) | (simp [aK,eC, *];done) | (simp_all [aK,eC];done) | (simp_all [aK,eC];omega) | (simp [aK,eC] <;> split <;> omega)
theorem aT8(x:Int):sB x=Ny x:=by
 unfold sB Ny
 repeat' split
 all_goals first | rfl | omega | skip
theorem aA1(x:Int):lK x=true↔97<=x/\x<=122:=by unfold lK;simp
theorem Rb(x:Int):plain x=true↔(97<=x/\x<=122)\/(48<=x/\x<=57)\/x=45:=by
 unfold plain lK rN;repeat' split
 all_goals simp_all
 all_goals omega
theorem aAr(x:Int):eC x=true↔(97<=x/\x<=122)\/(48<=x/\x<=57)\/x=45:=by
 unfold eC;repeat' split
 all_goals simp_all
 all_goals omega
theorem Qj(x:Int):eC x=plain x:=by rw [iQ,aAr,Rb]
def Do(s:ByteArray):Bool:=decide (1<=s.size/\s.size<=16) && Vc plain s
def fF(s:ByteArray):Bool:=Do s && decide (97<=lI s 0)
theorem Vr(s:ByteArray):(s=⟨#[]⟩)↔s.size=0:=by
 constructor
 .rintro rfl;rfl
 intro h;cases s with
 | mk d=>
  have:d.size=0:=h;have:d=#[]:=by simpa using this
  rw [this]
theorem aPw(s:ByteArray)(p:Int->Bool)(f:FuncId)(σ:List (List D))(hs:s.size<=9223372036854775807)(hp:∀x τ,Ct prog f [.v (.int .u8 x)] τ (fun r τ'=>r= .bool (p x)/\τ'=τ)):Ct prog 253 [D.str s,.clo (.func f) [] []] σ (fun r σ'=>r= .bool (Vc p s)/\σ'=σ):=by
 refine zf func253 ?_;refine bE fun _ _ Z=>?_;simp;apply Z;apply aF;refine bE fun _ _ Z=>?_;simp;and_intros<;>(try omega);apply Z;apply aS;refine zk [0,1,4,7,8] ?_;refine aZ (fun(k:Nat)=> [(8,.d (.v (.int .i64 (k:Int)))),(5,.d (.any))]) [4,5,8,9,10,11,12,13,14,15,16,17] (fun(k:Nat)=>k<=s.size/\∀j,j<k->p (lI s j)=true) (fun(k:Nat)=>s.size - k) (0) (by simp <;> rfl) ?_ ?_ ?_
 .simp
 .simp
 rintro k ⟨hk,hh⟩;simp only [aP,aN];refine bE fun _ _ Z=>?_;simp;apply Z;apply aF;refine zI ?_ ?_<;>intro c1<;>try simp at c1
 .apply kR;refine bE fun _ _ Z=>?_;simp;apply Z;refine bE fun _ _ Z=>?_;refine zs 4 fun _ Y=>?_;simp;and_intros<;>(try omega);apply Y;refine aE fun _ Y=>?_;simp;refine cB (hp (lI s k) _) ?_;apply Y;simp;apply Z;refine zI ?_ ?_<;>intro c2<;>try simp at c2
  .refine zk [0,1,5,7,8] ?_;refine bE fun _ _ Z=>?_;simp;apply Z;apply aD;simp [aK];exact aLa (k:=k) (by simpa [lI] using c2) (by omega)
  apply mM;refine zk [0,1,5,7,8] ?_;refine rB fun _ _ Z=>?_;simp;and_intros<;>(try omega);apply Z;refine zq (k+1) ?_ ?_ ?_
  .exact⟨by omega,Ks hh (by simpa [lI] using c2)⟩
  .try dsimp only
   omega
  simp
 apply zE;refine bE fun _ _ Z=>?_;simp;apply Z;apply aD;simp [aK];exact aNf hh (by omega)
theorem aO6(s:ByteArray)(σ:List (List D))(hs:s.size<=9223372036854775807):Ct prog 227 [D.str s] σ (fun r σ'=>r= .bool (Do s)/\σ'=σ):=by
 refine zf func227 ?_;refine bE fun _ _ Z=>?_;simp;apply Z;refine pB ⟨[],[],[],[],[]⟩ fun all hall _ Z=>?_;have ga2:aT all 2=some 5:=hall 2;have ga7:aT all 7=some 10:=hall 7;refine zs 3 fun _ Y=>?_;simp[ga2,ga7];apply Y;refine zb 5 ?_ ?_<;>intro g1<;>try simp at g1
 .refine zs 5 fun _ Y=>?_;simp[ga2,ga7];and_intros<;>(try omega);apply Y;refine zb 10 ?_ ?_<;>intro g2<;>try simp at g2
  .refine zs 1 fun _ Y=>?_;simp[ga2,ga7];apply Y;refine zg ga7 fun _ Y=>?_;simp[ga2,ga7];refine cB (aPw s plain 254 _ hs (fun x τ=>aIh x τ)) ?_;apply Y;simp[ga2,ga7];apply Z;apply aD;simp [aK,Do];rw [Vr] at g1
   intros;omega
  simp[ga2,ga7];apply Z;apply aD;simp [aK,Do]
  intros;omega
 refine zs 5 fun _ Y=>?_;simp[ga2,ga7];apply Y;simp[ga2,ga7];apply Z;apply aD;simp [aK,Do];rw [Vr] at g1
 intros;omega
theorem Ma (h:Do s=true):0<s.size/\s.size<=16:=by
 unfold Do at h;simp at h;omega
theorem aAk (h:Do s=true):lK (lI s 0)=decide (97<=lI s 0):=by
 have hp:=(Ma h).1;unfold Do at h;rw [fQ] at h;have:=aVf h.2 0 hp;rw [Rb] at this;rw [iQ,aA1,eO];omega
theorem uG(s:ByteArray)(σ:List (List D))(hs:s.size<=9223372036854775807):Ct prog 193 [D.str s] σ (fun r σ'=>r= .bool (fF s)/\σ'=σ):=by
 refine zf func193 ?_;refine bE fun _ _ Z=>?_;simp;apply Z;refine pB ⟨[],[],[],[],[]⟩ fun all hall _ Z=>?_;have ga2:aT all 2=some 5:=hall 2;refine zs 1 fun _ Y=>?_;simp[ga2];apply Y;refine aE fun _ Y=>?_;simp[ga2];refine cB (aO6 s _ hs) ?_;apply Y;refine zs 1 fun _ Y=>?_;simp[ga2];apply Y;refine zb 5 ?_ ?_<;>intro g1<;>try simp at g1
 .have hpos:=Ma g1;refine zs 2 fun _ Y=>?_;simp[ga2];and_intros<;>(try omega);apply Y;refine zg ga2 fun _ Y=>?_;simp[ga2];refine cB (Qr (lI s 0) _) ?_;apply Y;simp[ga2];apply Z;apply aD;simp [aK,fF,g1,aAk g1]
 simp[ga2];apply Z;apply aD;simp [aK,fF,g1]
theorem aRk(s:ByteArray)(σ:List (List D))(hs:s.size<=9223372036854775807):Ct prog 162 [D.str s] σ (fun r σ'=>r= .bool (Do s)/\σ'=σ):=by
 refine zf func162 ?_;refine bE fun _ _ Z=>?_;simp;apply Z;apply aF;refine bE fun _ _ Z=>?_;simp;apply Z;apply aS;refine zk [0,2,3] ?_;refine aZ (fun(k:Nat)=> [(3,.d (.v (.int .i64 (k:Int))))]) [2,3,4,5,6,7,8,9,10,11,12,13,14] (fun(k:Nat)=>k<=s.size/\∀j,j<k->plain (lI s j)=true) (fun(k:Nat)=>s.size - k) (0) (by simp <;> rfl) ?_ ?_ ?_
 .simp
 .simp
 rintro k ⟨hk,hh⟩;simp only [aP,aN];apply aF;refine bE fun _ _ Z=>?_;simp;and_intros<;>(try omega);apply Z;refine zI ?_ ?_<;>intro c1<;>try simp at c1
 .apply kR;refine bE fun _ _ Z=>?_;refine zs 3 fun _ Y=>?_;simp;and_intros<;>(try omega);apply Y;refine aE fun _ Y=>?_;simp;refine cB (aHd (lI s k) _) ?_;apply Y;simp;apply Z;refine zI ?_ ?_<;>intro c2<;>try simp at c2
  .refine bE fun _ _ Z=>?_;simp;apply Z;apply aD;simp [aK,Do];intro _ _;exact aLa (k:=k) (by rw [<- Qj];simpa [lI] using c2) (by omega)
  apply mM;refine rB fun _ _ Z=>?_;simp;and_intros<;>(try omega);apply Z;refine zq (k+1) ?_ ?_ ?_
  .exact⟨by omega,Ks hh (by rw [<- Qj];simpa [lI] using c2)⟩
  .try dsimp only
   omega
  simp
 apply zE;refine pB ⟨[],[],[],[],[]⟩ fun all hall _ Z=>?_;have ga3:aT all 3=some 18:=hall 3;refine zs 4 fun _ Y=>?_;simp[ga3];and_intros<;>(try omega);apply Y;refine zb 18 ?_ ?_<;>intro g3<;>try simp at g3
 .simp[ga3];and_intros<;>(try omega);apply Z;apply aD;simp [aK,Do];have:=aNf (p:=plain) (s:=s) hh (by omega);simp [this];rw [iQ];simp;omega
 simp[ga3];apply Z;apply aD;simp [aK,Do]
 intros;omega
theorem Ku(s:ByteArray)(σ:List (List D))(hs:s.size<=9223372036854775807):Ct prog 71 [D.str s] σ (fun r σ'=>r= .bool (fF s)/\σ'=σ):=by
 refine zf func71 ?_;refine bE fun _ _ Z=>?_;simp;apply Z;refine pB ⟨[],[],[],[],[]⟩ fun all hall _ Z=>?_;have ga2:aT all 2=some 5:=hall 2;refine zs 1 fun _ Y=>?_;simp[ga2];apply Y;refine aE fun _ Y=>?_;simp[ga2];refine cB (aRk s _ hs) ?_;apply Y;refine zs 1 fun _ Y=>?_;simp[ga2];apply Y;refine zb 5 ?_ ?_<;>intro g1<;>try simp at g1
 .have hpos:=Ma g1;simp[ga2];and_intros<;>(try omega);apply Z;apply aD;simp [aK,fF,g1,lI];rfl
 simp[ga2];apply Z;apply aD;simp [aK,fF,g1]
def uC(n:Nat)(s:ByteArray):ByteArray:=if n<s.size then s.extract 0 n else s
theorem uL(n:Nat)(s:ByteArray):(uC n s).size<=n:=by
 unfold uC;split
 .simp;omega
 omega
theorem wX(s:ByteArray)(n:Nat)(σ:List (List D))(hn:n<=1000000):Ct prog 20 [D.str s,D.int n] σ (fun r σ'=>r= .v (.string (uC n s))/\σ'=σ):=by
 refine zf func20 ?_;refine bE fun _ _ Z=>?_;simp;apply Z;apply aF;refine bE fun _ _ Z=>?_;simp;and_intros<;>(try omega);apply Z;refine zI ?_ ?_<;>intro c1<;>try simp at c1
 .refine bE fun _ _ Z=>?_;simp;and_intros<;>(try omega);apply Z;apply aD;simp [aK,uC,c1]
 apply zA;refine bE fun _ _ Z=>?_;simp;apply Z;apply aD;simp [aK,uC];intro h;omega
abbrev Ls:=List ByteArray
@[simp] abbrev dl(l:Ls):D:= .sl false (l.map D.str)
@[simp] abbrev dlo(l:Ls):D:= .sl true (l.map D.str)
def has(c:ByteArray)(l:Ls):Bool:=l.any fun x=>decide (x=c)
theorem Ce(c x:ByteArray)(l:Ls):has c (l++ [x])=(has c l || decide (x=c)):=by simp [has]
theorem Kx {l:Ls} (h:k<l.length)(e:l[k]=c):has c l=true:=by
 simp only [has,lU,eO];exact⟨l[k],cN h,e⟩
def tQ(l:Ls)(c:ByteArray):Ls:=if has c l then l else l++ [c]
theorem aIy(l:Ls)(c:ByteArray):(tQ l c).length<=l.length+1:=by
 unfold tQ;split <;> simp
def Zw(c:ByteArray)(l:Ls):Int:=match l.findIdx? (fun x=>decide (x=c))with | some k=>k | none=> -1
theorem aP0 {l:Ls} (h:k<l.length)(hh:has c (l.take k)=false)(e:c=l[k]):Zw c l=k:=by
 have:l.findIdx? (fun x=>decide (x=c))=some k:=by
  rw [qL];refine⟨h,by simp [e],fun j hj=>?_⟩;simp only [has,oX,eO] at hh;have:=hh ((l.take k)[j]'(by simp;omega)) (cN _);simpa using this
 simp [Zw,this]
theorem aEn {l:Ls} (h:has c l=false):Zw c l= -1:=by
 have:l.findIdx? (fun x=>decide (x=c))=none:=by
  rw [qX];simpa [has] using h
 simp [Zw,this]
theorem aJ5(c:ByteArray)(l:Ls):(0<=Zw c l)↔has c l=true:=by
 unfold Zw;split
 .rename_i k h;rw [qL] at h;obtain⟨hk,he,_⟩:=h;simp only [eO] at he;simp [Kx hk he]
 rename_i h;rw [qX] at h;simp [has];intro e;have:=h c e;simp at this
def kX(l:Ls)(c:ByteArray):Ls:=l.filter fun x=> !decide (x=c)
theorem wA(l:Ls)(x c:ByteArray):kX (l++ [x]) c=kX l c++if x=c then [] else [x]:=by
 simp [kX,eP,gJ]
theorem Ng(l:Ls)(c:ByteArray)(k:Nat)(h:k<l.length):kX (l.take (k+1)) c=kX (l.take k) c++if l[k]=c then [] else [l[k]]:=by rw [bK l k h,wA]
theorem Pa(l:Ls)(c:ByteArray):(kX l c).length<=l.length:=gE _ _
theorem Jc(l:Ls)(c:ByteArray)(σ:List (List D))(hl:l.length<=9223372036854775807):Ct prog 77 [dl l,D.str c] σ (fun r σ'=>r= .bool (has c l)/\σ'=σ):=by
 refine zf func77 ?_;refine bE fun _ _ Z=>?_;simp(disch:=omega);apply Z;apply aF;refine bE fun _ _ Z=>?_;simp(disch:=omega);and_intros<;>(try omega);apply Z;apply aS;refine zk [1,4,7,8,9] ?_;refine aZ (fun(k:Nat)=> [(9,.d (.int k))]) [4,6,9,10,11,12,13,14,15,16] (fun(k:Nat)=>k<=l.length/\has c (l.take k)=false) (fun(k:Nat)=>l.length - k) (0) (by simp <;> rfl) ?_ ?_ ?_
 .simp
 .simp [has]
 rintro k ⟨hk,hh⟩;simp only [aP,aN];refine bE fun _ _ Z=>?_;simp(disch:=omega);apply Z;apply aF;refine zI ?_ ?_<;>intro c1<;>try simp at c1
 .apply kR;refine bE fun _ _ Z=>?_;simp(disch:=omega);and_intros<;>(try omega);apply Z;refine bE fun _ _ Z=>?_;simp(disch:=omega);apply Z;refine zI ?_ ?_<;>intro c2<;>try simp at c2
  .refine bE fun _ _ Z=>?_;simp(disch:=omega);apply Z;apply aD;simp [aK];exact Kx c1 c2
  apply mM;refine rB fun _ _ Z=>?_;simp(disch:=omega);and_intros<;>(try omega);apply Z;refine zq (k+1) ?_ ?_ ?_
  .exact⟨by omega,by rw [bK l k (by omega),Ce,hh];simp [*]⟩
  .try dsimp only
   omega
  simp(disch:=omega)
 apply zE;refine bE fun _ _ Z=>?_;simp(disch:=omega);apply Z;apply aD;simp [aK];rw [bL (by omega)] at hh;exact hh
theorem aPi(a b:Ls)(σ:List (List D))(ha:a.length<=9223372036854775807)(hb:b.length<=9223372036854775807):Ct prog 167 [dl a,dl b] σ (fun r σ'=>r= .bool (decide (a=b))/\σ'=σ):=by
 refine zf func167 ?_;refine bE fun _ _ Z=>?_;simp(disch:=omega);apply Z;apply aF;refine bE fun _ _ Z=>?_;simp(disch:=omega);and_intros<;>(try omega);apply Z;refine zI ?_ ?_<;>intro c1<;>try simp at c1
 .refine bE fun _ _ Z=>?_;simp(disch:=omega);apply Z;apply aD;simp [aK];intro e;subst e;exact absurd rfl c1
 apply zA;apply aF;refine bE fun _ _ Z=>?_;simp(disch:=omega);and_intros<;>(try omega);apply Z;apply aS;refine zk [0,1,4,12,13] ?_;refine aZ (fun(k:Nat)=> [(13,.d (.int k))]) [4,5,13,14,15,16,17,18,19,20,21,22,23,24,25] (fun(k:Nat)=>k<=a.length/\a.take k=b.take k) (fun(k:Nat)=>a.length - k) (0) (by simp <;> rfl) ?_ ?_ ?_
 .simp
 .simp
 rintro k ⟨hk,hh⟩;simp only [aP,aN];refine bE fun _ _ Z=>?_;simp(disch:=omega);apply Z;apply aF;refine zI ?_ ?_<;>intro c2<;>try simp at c2
 .apply kR;refine bE fun _ _ Z=>?_;simp(disch:=omega);apply Z;refine zd ⟨[],[],[],[],[]⟩ [.op {},.op {},.op {},.op {},.op {},.op {},.op {},.op {},.op {}] fun all hall _ Z=>?_;refine iU 8 fun _ Y=>?_;simp(disch:=omega);and_intros<;>(try omega);apply Y;simp(disch:=omega);apply Z;refine zI ?_ ?_<;>intro c3<;>try simp at c3
  .refine zk [0,1,12,13] ?_;refine bE fun _ _ Z=>?_;simp(disch:=omega);apply Z;apply aD;simp [aK];intro e;subst e;exact c3 rfl
  apply mM;refine zk [0,1,12,13] ?_;refine rB fun _ _ Z=>?_;simp(disch:=omega);and_intros<;>(try omega);apply Z;refine zq (k+1) ?_ ?_ ?_
  .exact⟨by omega,by rw [bK a k (by omega),bK b k (by omega),hh];simp [*]⟩
  .try dsimp only
   omega
  simp(disch:=omega)
 apply zE;refine bE fun _ _ Z=>?_;simp(disch:=omega);apply Z;apply aD;simp [aK]
 rwa [bL (by omega),bL (by omega)] at hh
@[simp] abbrev q32_1:Cfg:=⟨[4,5,18,23],[],[],[],[]⟩
theorem aNi(l:Ls)(c:ByteArray)(σ:List (List D))(hl:l.length<=1000000):Ct prog 78 [dl l,D.str c] σ (fun r σ'=>r=dlo (kX l c)/\σ'=σ):=by
 refine zf func78 ?_;refine zr q32_1 fun _ _ Z=>?_;simp(disch:=omega);apply Z;refine zr q32_1 fun _ _ Z=>?_;simp(disch:=omega);and_intros<;>(try omega);apply Z;apply aF;refine zr q32_1 fun _ _ Z=>?_;simp(disch:=omega);and_intros<;>(try omega);apply Z;apply aS;refine zk [1,4,5,9,10,11] ?_;refine aZ (fun(k:Nat)=> [(11,.d (.int k)),(5,.d (dlo (kX (l.take k) c)))]) [5,7,11,12,13,14,15,16,17,18,19,20,21,22] (fun(k:Nat)=>k<=l.length) (fun(k:Nat)=>l.length - k) (0) (by simp <;> rfl) ?_ ?_ ?_
 .simp [kX]
 .simp
 rintro k hk;simp only [aP,aN];have hcl:=Pa (l.take k) c;simp only [bF] at hcl;refine zr q32_1 fun _ _ Z=>?_;simp(disch:=omega);apply Z;apply aF;refine zI ?_ ?_<;>intro c1<;>try simp at c1
 .apply kR;refine zr q32_1 fun _ _ Z=>?_;simp(disch:=omega);and_intros<;>(try omega);apply Z;refine zr q32_1 fun _ _ Z=>?_;simp(disch:=omega);apply Z;refine zI ?_ ?_<;>intro c2<;>try simp at c2
  .refine zk [1,4,5,7,9,10,11] ?_;refine zt q32_1 fun _ _ Z=>?_;simp(disch:=omega);and_intros<;>(try omega);apply Z;apply zB;refine zk [1,4,5,9,10,11] ?_;refine zt q32_1 fun _ _ Z=>?_;simp(disch:=omega);and_intros<;>(try omega);apply Z;refine zq (k+1) ?_ ?_ ?_
   .omega
   .try dsimp only
    omega
   simp(disch:=omega)[Ng,c2]
  apply mM;refine zk [1,4,5,9,10,11] ?_;refine zt q32_1 fun _ _ Z=>?_;simp(disch:=omega);and_intros<;>(try omega);apply Z;refine zq (k+1) ?_ ?_ ?_
  .omega
  .try dsimp only
   omega
  simp(disch:=omega)[Ng,c2]
 apply zE;refine zr q32_1 fun _ _ Z=>?_;simp(disch:=omega);apply Z;apply aD;simp [aK];rw [bL (by omega)]
theorem aIm(l:Ls)(c:ByteArray)(σ:List (List D))(hl:l.length<=9223372036854775807):Ct prog 255 [dl l,D.str c] σ (fun r σ'=>r= .int (Zw c l)/\σ'=σ):=by
 refine zf func255 ?_;refine bE fun _ _ Z=>?_;simp(disch:=omega);apply Z;apply aF;refine bE fun _ _ Z=>?_;simp(disch:=omega);and_intros<;>(try omega);apply Z;apply aS;refine zk [0,1,4,7,8] ?_;refine aZ (fun(k:Nat)=> [(8,.d (.int k))]) [4,5,8,9,10,11,12,13,14,15,16,17,18] (fun(k:Nat)=>k<=l.length/\has c (l.take k)=false) (fun(k:Nat)=>l.length - k) (0) (by simp <;> rfl) ?_ ?_ ?_
 .simp
 .simp [has]
 rintro k ⟨hk,hh⟩;simp only [aP,aN];refine bE fun _ _ Z=>?_;simp(disch:=omega);apply Z;apply aF;refine zI ?_ ?_<;>intro c1<;>try simp at c1
 .apply kR;refine bE fun _ _ Z=>?_;simp(disch:=omega);apply Z;refine bE fun _ _ Z=>?_;simp(disch:=omega);and_intros<;>(try omega);apply Z;refine zI ?_ ?_<;>intro c2<;>try simp at c2
  .refine zk [0,1,5,7,8] ?_;refine bE fun _ _ Z=>?_;simp(disch:=omega);apply Z;apply aD;simp [aK];exact(aP0 c1 hh c2).symm
  apply mM;refine zk [0,1,7,8] ?_;refine rB fun _ _ Z=>?_;simp(disch:=omega);and_intros<;>(try omega);apply Z;refine zq (k+1) ?_ ?_ ?_
  .exact⟨by omega,by rw [bK l k (by omega),Ce,hh];simp;exact fun e=>c2 e.symm⟩
  .try dsimp only
   omega
  simp(disch:=omega)
 apply zE;refine bE fun _ _ Z=>?_;simp(disch:=omega);apply Z;apply aD;simp [aK];rw [bL (by omega)] at hh;exact(aEn hh).symm
theorem Xu(l:Ls)(c:ByteArray)(σ:List (List D))(hl:l.length<=9223372036854775807):Ct prog 229 [dl l,D.str c] σ (fun r σ'=>r= .bool (has c l)/\σ'=σ):=by
 refine zf func229 ?_;refine bE fun _ _ Z=>?_;simp;apply Z;refine bE fun _ _ Z=>?_;refine zs 2 fun _ Y=>?_;simp;apply Y;refine aE fun _ Y=>?_;simp;refine cB (aIm _ _ _ hl) ?_;apply Y;simp;apply Z;apply aD;simp [aK,aJ5]
theorem yP(l:Ls)(c:ByteArray)(σ:List (List D))(hl:l.length<=9223372036854775807):Ct prog 195 [dl l,D.str c] σ (fun r σ'=>r= .bool (has c l)/\σ'=σ):=by
 refine zf func195 ?_;refine bE fun _ _ Z=>?_;simp;apply Z;refine bE fun _ _ Z=>?_;refine zs 2 fun _ Y=>?_;simp;apply Y;refine aE fun _ Y=>?_;simp;refine cB (Xu _ _ _ hl) ?_;apply Y;simp;apply Z;apply aD;simp[aK]
theorem Ly(l:Ls)(σ:List (List D))(hl:l.length<=1000000):Ct prog 152 [dl l] σ (fun r σ'=>r=dlo l/\σ'=σ):=by
 refine zf func152 ?_;refine zr ⟨[2],[],[],[],[]⟩ fun _ _ Z=>?_;simp;apply Z;apply aF;refine zr ⟨[2],[],[],[],[]⟩ fun _ _ Z=>?_;refine zs 1 fun _ Y=>?_;simp;apply Y;refine aE fun _ Y=>?_;simp;refine⟨Y _ ?_,fun e1=>Y _ ?_⟩
 .simp only [eE];apply Z;refine bS (t:=false) (by simp) (fun h=>by cases h) (fun _=>?_);apply zA;refine zr ⟨[2],[],[],[],[]⟩ fun _ _ Z=>?_;simp;and_intros<;>(try omega);apply Z;apply aD;simp [aK]
 simp only [eE];apply Z;refine bS (t:=true) (by simp) (fun _=>?_) (fun h=>by cases h);refine zr ⟨[2],[],[],[],[]⟩ fun _ _ Z=>?_;simp;apply Z;apply aD;simp [aK,e1]
@[simp] abbrev q32_2:Cfg:=⟨[4,5,12,16],[],[],[],[]⟩
theorem aI3(l:Ls)(c:ByteArray)(σ:List (List D))(hl:l.length<=1000000):Ct prog 186 [dl l,D.str c] σ (fun r σ'=>r=dlo (tQ l c)/\σ'=σ):=by
 refine zf func186 ?_;refine zr q32_2 fun _ _ Z=>?_;simp;apply Z;refine zr q32_2 fun _ _ Z=>?_;refine zs 1 fun _ Y=>?_;simp;apply Y;refine aE fun _ Y=>?_;simp;refine cB (Ly _ _ hl) ?_;apply Y;simp;apply Z;apply aF;refine zr q32_2 fun _ _ Z=>?_;refine zs 2 fun _ Y=>?_;simp;apply Y;refine aE fun _ Y=>?_;simp;refine cB (yP l _ _ (by omega)) ?_;apply Y;simp;apply Z;refine zI ?_ ?_<;>intro c1<;>try simp at c1
 .refine zt q32_2 fun _ _ Z=>?_;simp;and_intros<;>(try omega);apply Z;apply gI;refine zk [4,5] ?_;refine zr q32_2 fun _ _ Z=>?_;simp;apply Z;apply aD;simp [aK,tQ,c1]
 apply zA;refine zr q32_2 fun _ _ Z=>?_;simp;apply Z;apply aD;simp [aK,tQ,c1]
theorem Om(l:Ls)(p:ByteArray->Bool)(f:FuncId)(caps:List D)(m cap:Nat)(rest:List D)(σ:List (List D))(hl:l.length<=9223372036854775807)(hσ:σ[m]?=some (l.map D.str++rest))(hcp:∀d∈caps,d.plain=true)(hcs:caps.map D.strip=caps)(hp:∀x τ,Ct prog f (D.str x::caps) τ (fun r τ'=>r= .bool (p x)/\τ'=τ)):Ct prog 226 [.slo m 0 l.length cap,.clo (.func f) [] caps] σ (fun r σ'=>r= .int (wQ p l)/\σ'=σ):=by
 refine zf func226 ?_;refine zr ⟨[],[],[],[7,14],[]⟩ fun _ _ Z=>?_;simp(disch:=omega)[hσ,hcs,bD];apply Z;apply aF;refine zr ⟨[],[],[],[7,14],[]⟩ fun _ _ Z=>?_;simp(disch:=omega)[hσ,hcs,bD];and_intros<;>(try omega);apply Z;apply aS;refine zk [0,1,4,7,8] ?_;refine aZ (fun(k:Nat)=> [(8,.d (.v (.int .i64 (k:Int))))]) [4,5,8,9,10,11,12,13,14,15,16,17,18] (fun(k:Nat)=>k<=l.length/\∀x∈l.take k,p x=false) (fun(k:Nat)=>l.length - k) (0) (by simp <;> rfl) ?_ ?_ ?_
 .simp
 .simp
 rintro k ⟨hk,hh⟩;simp only [aP,aN];refine zr ⟨[],[],[],[7,14],[]⟩ fun _ _ Z=>?_;simp(disch:=omega)[hσ,hcs,bD];apply Z;apply aF;refine zI ?_ ?_<;>intro c1<;>try simp at c1
 .apply kR;refine zr ⟨[],[],[],[7,14],[]⟩ fun _ _ Z=>?_;simp(disch:=omega)[hσ,hcs,bD];apply Z;refine zr ⟨[],[],[],[7,14],[]⟩ fun _ _ Z=>?_;refine zs 5 fun _ Y=>?_;simp(disch:=omega)[hσ,hcs,bD];and_intros<;>(try omega);apply Y;refine aE fun _ Y=>?_;simp(disch:=omega)[hσ,hcs,bD];refine⟨hcp,?_⟩;refine cB (hp l[k] _) ?_;apply Y;simp only [eE];apply Z;refine zI ?_ ?_<;>intro c2<;>try simp at c2
  .refine zk [0,1,5,7,8] ?_;refine zr ⟨[],[],[],[7,14],[]⟩ fun _ _ Z=>?_;simp(disch:=omega)[hσ,hcs,bD];apply Z;apply aD;simp [aK];exact(tZ c1 hh c2).symm
  apply mM;refine zk [0,1,7,8] ?_;refine zt ⟨[],[],[],[7,14],[]⟩ fun _ _ Z=>?_;simp(disch:=omega)[hσ,hcs,bD];and_intros<;>(try omega);apply Z;refine zq (k+1) ?_ ?_ ?_
  .exact⟨by omega,oF (by omega) hh c2⟩
  .try dsimp only
   omega
  simp(disch:=omega)[hσ,hcs,bD]
 apply zE;refine zr ⟨[],[],[],[7,14],[]⟩ fun _ _ Z=>?_;simp(disch:=omega)[hσ,hcs,bD];apply Z;apply aD;simp [aK];rw [bL (by omega)] at hh;exact(qQ hh).symm
theorem Oa(f:FuncId)(caps:List D)(σ:List (List D))(hcp:∀d∈caps,d.plain=true):Ct prog 226 [.xl 0,.clo (.func f) [] caps] σ (fun r σ'=>r= .int (-1)/\σ'=σ):=by
 refine zf func226 ?_;refine zr ⟨[],[],[],[7],[]⟩ fun _ _ Z=>?_;simp;apply Z;apply aF;refine zr ⟨[],[],[],[7],[]⟩ fun _ _ Z=>?_;simp;and_intros<;>(try omega);apply Z;apply aS;refine zk [0,1,4,7,8] ?_;refine aZ (fun(k:Nat)=> [(8,.d (.int 0))]) [4,5,8,9,10,11,12,13,14,15,16,17,18] (fun(k:Nat)=>k=0) (fun(k:Nat)=>0) (0) (by simp <;> rfl) ?_ ?_ ?_
 .simp
 .rfl
 rintro k hk;simp only [aP,aN];refine zr ⟨[],[],[],[7],[]⟩ fun _ _ Z=>?_;simp;apply Z;apply aF;refine zI ?_ ?_<;>intro c1<;>try simp at c1
 apply zE;refine zr ⟨[],[],[],[7],[]⟩ fun _ _ Z=>?_;simp;apply Z;apply aD;simp [aK]
theorem We(p:ByteArray->Bool)(l k:Ls)(rest:List D):List.take k.length ((k++l).map D.str++rest)=k.map D.str:=by
 rw [dK,bM,Gg (by simp)];rw [bL (by simp)]
@[simp] abbrev q32_3:Cfg:=⟨[4,13],[],[],[18,24,33,38,41],[]⟩
theorem Ko(l:Ls)(p:ByteArray->Bool)(f:FuncId)(caps:List D)(σ:List (List D))(hl:l.length<=1000000)(hne:l≠ [])(hcp:∀d∈caps,d.plain=true)(hcs:caps.map D.strip=caps)(hp:∀x τ,Ct prog f (D.str x::caps) τ (fun r τ'=>r= .bool (p x)/\τ'=τ)):Ct prog 268 [.xs 1 (l.map D.str),.clo (.func f) [] caps] σ (fun r σ'=>r= .xs 1 ((l.filter fun x=> !p x).map D.str)/\σ'=σ++ [[]]):=by
 refine zf func268 ?_;refine qO 0 1 rfl (by decide) fun cap rest hcap hcm hrest hk0 hes=>?_;simp only [bI] at hcap hrest |-;rw [gH (f:=D.str) (fun _=>rfl)];refine zr q32_3 fun _ _ Z=>?_;simp(disch:=first|omega|assumption)[hcs,bD,dI];apply Z;refine zr q32_3 fun _ _ Z=>?_;refine zs 2 fun _ Y=>?_;simp(disch:=first|omega|assumption)[hcs,bD,dI];apply Y;refine aE fun _ Y=>?_;simp(disch:=first|omega|assumption)[hcs,bD,dI];refine cB (Om l p f caps σ.length cap rest _ (by omega) (by simp) hcp hcs hp) ?_;apply Y;simp(disch:=first|omega|assumption)[hcs,bD,dI];apply Z;apply aF;refine zr q32_3 fun _ _ Z=>?_;simp(disch:=first|omega|assumption)[hcs,bD,dI];apply Z;refine zI ?_ ?_<;>intro c1<;>try simp at c1
 .refine zr q32_3 fun _ _ Z=>?_;simp(disch:=first|omega|assumption)[hcs,bD,dI];apply Z;refine eW 4 1 σ.length l.length cap (l.map D.str) (l.map D.str++rest) (by simp <;> rfl) (by simp) (by omega) (by simp [hrest];omega) (by simp) (by simp) (by rw [gH (fun _=>rfl)];exact cD _ _) ?_;simp only [pH];apply aD;simp [aK];rcases wT p l with ⟨_,h⟩ | ⟨k,h,_⟩
  .rw [h]
  omega
 obtain⟨k0,e0,e1,e2,e3⟩:=Cr c1;rw [e0];apply zA;apply aF;refine zr q32_3 fun _ _ Z=>?_;simp(disch:=first|omega|assumption)[hcs,bD,dI];and_intros<;>try first|omega|exact rfl
 apply Z;apply aS;refine zk [0,1,4,5,6] ?_;refine qB (fun(j:Nat)=> [(5,.d (.v (.int .i64 ((kp p l j).length:Int)))),(6,.d (.v (.int .i64 (j:Int))))]) (fun(j:Nat)=> []) (fun(j:Nat)=> [(σ.length,(ar p l j).map D.str++rest)]) [5,6,7,16,17,18,19,20,21,22,23,24,25,26,27,28,29,30,31,32,33,34,35] (fun(j:Nat)=>j<=l.length) (fun(j:Nat)=>l.length - j) (k0+1) (by simp <;> rfl) ?_ (by simp) (by simp [e1]) ?_ ?_
 .simp [e1,e2]
 .omega
 rintro j hj;simp only [aP,aN,rK,oS,eQ,gR];have hkl:=Oo p l j hj;have hal:=Mo p l j;apply aF;refine zr q32_3 fun _ _ Z=>?_;simp(disch:=first|omega|assumption)[hcs,bD,dI];and_intros<;>try first|omega|exact rfl
 apply Z;refine zI ?_ ?_<;>intro c2<;>try simp at c2
 .apply kR;refine zr q32_3 fun _ _ Z=>?_;simp(disch:=first|omega|assumption)[hcs,bD,dI];and_intros<;>try first|omega|exact rfl
  apply Z;refine zk [0,1,4,5,6,7] ?_;refine zr q32_3 fun _ _ Z=>?_;refine zs 2 fun _ Y=>?_;simp(disch:=first|omega|assumption)[hcs,bD,dI];apply Y;refine aE fun _ Y=>?_;simp(disch:=first|omega|assumption)[hcs,bD,dI];simp only [aBt p l j (by omega)];refine⟨hcp,?_⟩;refine cB (hp l[j] _) ?_;apply Y;simp(disch:=first|omega|assumption)[hcs,bD,dI];apply Z;refine zI ?_ ?_<;>intro c3<;>try simp at c3
  .refine zr q32_3 fun _ _ Z=>?_;simp(disch:=first|omega|assumption)[hcs,bD,dI];and_intros<;>try first|omega|exact rfl
   apply Z;refine zk [0,1,4,5,6] ?_;refine zt q32_3 fun _ _ Z=>?_;simp(disch:=first|omega|assumption)[hcs,bD,dI];and_intros<;>try first|omega|exact rfl
   apply Z;apply zB;refine zt q32_3 fun _ _ Z=>?_;simp(disch:=first|omega|assumption)[hcs,bD,dI];and_intros<;>try first|omega|exact rfl
   apply Z;refine eX (j+1) ?_ ?_ (dX rfl ?_ (by simp) (by rw [<- (Aw p l j (by omega) c3).1];simp(disch:=omega) [Wq,hal]))
   .omega
   .try dsimp only
    omega
   simp(disch:=first|omega|assumption)[hcs,bD,dI,(Aw p l j (by omega) c3).2]
  apply mM;refine zt q32_3 fun _ _ Z=>?_;simp(disch:=first|omega|assumption)[hcs,bD,dI];and_intros<;>try first|omega|exact rfl
  apply Z;refine eX (j+1) ?_ ?_ (dX rfl ?_ (by simp) (by simp [(vX p l j (by omega) c3).1]))
  .omega
  .try dsimp only
   omega
  simp(disch:=first|omega|assumption)[hcs,bD,dI,(vX p l j (by omega) c3).2]
 apply zE;refine zr q32_3 fun _ _ Z=>?_;simp(disch:=first|omega|assumption)[hcs,bD,dI];and_intros<;>try first|omega|exact rfl
 apply Z;refine zk [0,4,5] ?_;refine zr q32_3 fun _ _ Z=>?_;simp(disch:=first|omega|assumption)[hcs,bD,dI];and_intros<;>try first|omega|exact rfl
 apply Z;refine eW 4 1 σ.length (kp p l j).length cap ((kp p l j).map D.str) ((kp p l j).map D.str++(jE #[.string ⟨#[]⟩] (l.length - (kp p l j).length)++rest)) (by simp <;> rfl) (by rw [show List.map D.str (kp p l j)=List.take (kp p l j).length (List.map D.str (ar p l j)++rest)from(We p _ _ rest).symm];simp [jA (z:=#[.string ⟨#[]⟩]) (k:=1) rfl,show(kp p l j).length+(l.length - (kp p l j).length)=l.length by omega,Vn D.str (ar p l j) rest l.length hal.symm]) (by omega) (by simp [hrest,jA (z:=#[.string ⟨#[]⟩]) (k:=1) rfl];omega) (by simp) (by simp) (by rw [gH (fun _=>rfl)];exact cD _ _) ?_;simp only [pH];apply aD;simp [aK];unfold kp;rw [bL (by omega)]
theorem Mv(f:FuncId)(caps:List D)(σ:List (List D))(hcp:∀d∈caps,d.plain=true):Ct prog 268 [.xs 1 [],.clo (.func f) [] caps] σ (fun r σ'=>r= .xs 1 []/\σ'=σ):=by
 refine zf func268 ?_;refine zr ⟨[4,13],[],[],[],[]⟩ fun _ _ Z=>?_;simp;apply Z;refine zr ⟨[4,13],[],[],[],[]⟩ fun _ _ Z=>?_;refine zs 2 fun _ Y=>?_;simp;apply Y;refine aE fun _ Y=>?_;simp;refine cB (Oa f caps _ hcp) ?_;apply Y;simp;apply Z;apply aF;refine zr ⟨[4,13],[],[],[],[]⟩ fun _ _ Z=>?_;simp;apply Z;refine zI ?_ ?_<;>intro c1<;>try simp at c1
 refine zr ⟨[4,13],[],[],[],[]⟩ fun _ _ Z=>?_;simp;apply Z;apply aD;simp[aK]
theorem aQr(N:Nat)(l:Ls):Sc N (.xs 1 (l.map D.str)):=Sc.xs fun d hd e he=>by
 obtain⟨a,_,rfl⟩:=aX.1 hd;simp [D.cells] at he;subst he;exact Sc.v _
theorem On(l:Ls)(p:ByteArray->Bool)(f:FuncId)(caps:List D)(σ:List (List D))(hl:l.length<=1000000)(hcp:∀d∈caps,d.plain=true)(hcs:caps.map D.strip=caps)(hp:∀x τ,Ct prog f (D.str x::caps) τ (fun r τ'=>r= .bool (p x)/\τ'=τ)):
  Ct prog 268 [.xs 1 (l.map D.str),.clo (.func f) [] caps] σ (fun r σ'=>r= .xs 1 ((l.filter fun x=> !p x).map D.str)/\σ'=σ):=by
 by_cases hne:l= []
 .subst hne;exact Mv f caps σ hcp
 exact(Ko l p f caps σ hl hne hcp hcs hp).trim fun r σ' ⟨hr,hs⟩=>⟨σ, [[]],hs,rfl,by rw [hr];exact aQr _ _,fun n cs h=> .inl h,hr,rfl⟩
theorem aAv(l:Ls)(σ:List (List D))(hl:l.length<=1000000):Ct prog 152 [dl l] σ (fun r σ'=>wY 1 (l.map D.str) r/\σ'=σ):=by
 refine zf func152 ?_;refine zr ⟨[2],[],[],[7],[]⟩ fun _ _ Z=>?_;simp(disch:=first|omega|assumption);apply Z;apply aF;refine zr ⟨[2],[],[],[7],[]⟩ fun _ _ Z=>?_;refine zs 1 fun _ Y=>?_;simp(disch:=first|omega|assumption);apply Y;refine aE fun _ Y=>?_;simp(disch:=first|omega|assumption);refine⟨Y _ ?_,fun e1=>Y _ ?_⟩
 .simp only [eE];apply Z;refine bS (t:=false) (by simp) (fun h=>by cases h) (fun _=>?_);apply zA;refine zr ⟨[2],[],[],[7],[]⟩ fun _ _ Z=>?_;simp(disch:=first|omega|assumption);and_intros<;>try first|omega|exact rfl
  apply Z;apply aD;simp [aK,wY]
 simp only [eE];apply Z;refine bS (t:=true) (by simp) (fun _=>?_) (fun h=>by cases h);refine zr ⟨[2],[],[],[7],[]⟩ fun _ _ Z=>?_;simp(disch:=first|omega|assumption);apply Z;apply aD;simp [aK,wY,e1]
theorem aGi(l:Ls)(σ:List (List D))(hl:l.length<=1000000):Ct prog 152 [dl l] σ (fun r σ'=>r= .xs 1 (l.map D.str)/\σ'=σ):=(aAv l σ hl).toX fun _ _ h=>h
theorem Zd(l:Ls)(p:ByteArray->Bool)(f:FuncId)(caps:List D)(σ:List (List D))(hl:l.length<=1000000)(hcp:∀d∈caps,d.plain=true)(hcs:caps.map D.strip=caps)(hp:∀x τ,Ct prog f (D.str x::caps) τ (fun r τ'=>r= .bool (p x)/\τ'=τ)):Ct prog 256 [dl l,.clo (.func f) [] caps] σ (fun r σ'=>r= .xs 1 ((l.filter fun x=> !p x).map D.str)/\σ'=σ):=by
 refine zf func256 ?_;refine zr ⟨[4,7,8],[],[],[],[]⟩ fun _ _ Z=>?_;simp;apply Z;refine zr ⟨[4,7,8],[],[],[],[]⟩ fun _ _ Z=>?_;refine zs 1 fun _ Y=>?_;simp;apply Y;refine aE fun _ Y=>?_;simp;refine cB (aGi l _ hl) ?_;apply Y;refine zs 1 fun _ Y=>?_;simp;apply Y;refine aE fun _ Y=>?_;simp;refine cB (On l p f caps _ hl hcp hcs hp) ?_;apply Y;simp;apply Z;apply aD;simp[aK]
theorem aK2(x c:ByteArray)(σ:List (List D))  :Ct prog 257 [D.str x,.adr [D.str c]] σ (fun r σ'=>r= .bool (decide (x=c))/\σ'=σ):=by
 refine zf func257 ?_;refine bE fun _ _ Z=>?_;simp;apply Z;refine bE fun _ _ Z=>?_;simp;apply Z;apply aD;simp[aK]
theorem aF5(l:Ls)(c:ByteArray)(σ:List (List D))(hl:l.length<=1000000):Ct prog 230 [dl l,D.str c] σ (fun r σ'=>r= .xs 1 ((kX l c).map D.str)/\σ'=σ):=by
 refine zf func230 ?_;refine zr ⟨[4],[3],[],[],[]⟩ fun _ _ Z=>?_;simp;apply Z;refine zr ⟨[4],[3],[],[],[]⟩ fun _ _ Z=>?_;refine zs 2 fun _ Y=>?_;simp;and_intros<;>(try omega);apply Y;refine aE fun _ Y=>?_;simp;refine cB (Zd l (fun x=>decide (x=c)) 257 [.adr [D.str c]] _ hl (by simp) (by simp) (fun x τ=>aK2 x c τ)) ?_;apply Y;simp;apply Z;apply aD;simp [aK,kX]
theorem aJd(l:Ls)(c:ByteArray)(σ:List (List D))(hl:l.length<=1000000):Ct prog 230 [dl l,D.str c] σ (fun r σ'=>r=dl (kX l c)/\σ'=σ):=(aF5 l c σ hl).freeze fun _ _ h=>h
end Go.Proofs.YtbgfljpnhhdkoaaGreat
