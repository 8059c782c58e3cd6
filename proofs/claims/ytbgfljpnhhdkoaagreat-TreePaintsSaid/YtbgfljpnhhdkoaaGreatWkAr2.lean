import Derived.Test.YtbgfljpnhhdkoaaGreatVmTab
import Derived.Test.YtbgfljpnhhdkoaaGreatVmZ
set_option linter.all false
set_option maxRecDepth 20000
set_option maxHeartbeats 8000000
open Go.Proofs.Tryz
namespace Go.Proofs.YtbgfljpnhhdkoaaGreat
open Go Go.Vm
variable {c s:ByteArray}{k:Nat}{p:Int->Bool}
def lV(s:ByteArray)(k:Nat):Int:=((s.data[k]?.getD 0).toNat:Int)
def Wq(p:Int->Bool)(s:ByteArray):Bool:=(List.range s.size).all fun k=>p (lV s k)
theorem aLo (h:∀j,j<k->p (lV s j)=true)(hk:s.size<=k):Wq p s=true:=by
 unfold Wq;rw [gK];intro j hj;exact h j (by have:=fS.1 hj;omega)
theorem aMe (h:p (lV s k)=false)(hk:k<s.size):Wq p s=false:=by
 rw [<- vE];intro hh;unfold Wq at hh;rw [gK] at hh;have:=hh k (fS.2 hk);rw [h] at this;cases this
theorem aSw (h:Wq p s=true)(k:Nat)(hk:k<s.size):p (lV s k)=true:=by
 unfold Wq at h;rw [gK] at h;exact h k (fS.2 hk)
theorem Ke (h:∀j,j<k->p (lV s j)=true)(h2:p (lV s k)=true):∀j,j<k+1->p (lV s j)=true:=fun j hj=>by
 rcases Qj.1 hj with h1 | rfl
 .exact h j h1
 exact h2
def Nb(x0:Int)(x1:Int)(x2:Int):Int:=max x1 (min x0 x2)
theorem aRj(x0:Int)(x1:Int)(x2:Int)(σ:List (List D))  :Ct prog 131 [.v (.int .i64 x0),.v (.int .i64 x1),.v (.int .i64 x2)] σ (fun r σ'=>r= .v (.int .i64 (Nb x0 x1 x2))/\σ'=σ):=by
 refine zf func131 ?_;refine aZ fun all K Z=>?_;simp;apply Z;clear Z K all;refine aZ fun all K Z=>?_;simp;and_intros<;>(try omega);apply Z;clear Z K all;apply aD;first | (simp [aJ,Nb];done) | (simp [aJ,Nb];done) | (simp [aJ];unfold Nb;(repeat' split) <;> first | (exfalso;omega) | (simp_all;done)) | (simp [aJ,Nb, *];done) | (simp_all [aJ,Nb];done) | (simp_all [aJ,Nb];omega) | (simp [aJ,Nb] <;> split <;> omega)
def wU(x0:Int):Int:=max (-2147483648) (min x0 2147483647)
theorem Sk(x0:Int)(σ:List (List D))  :Ct prog 238 [.v (.int .i64 x0)] σ (fun r σ'=>r= .v (.int .i64 (wU x0))/\σ'=σ):=by
 refine zf func238 ?_;refine aZ fun all K Z=>?_;simp;apply Z;clear Z K all;refine aZ fun all K Z=>?_;simp;and_intros<;>(try omega);apply Z;clear Z K all;apply aD;first | (simp [aJ,wU];done) | (simp [aJ,wU];done) | (simp [aJ];unfold wU;(repeat' split) <;> first | (exfalso;omega) | (simp_all;done)) | (simp [aJ,wU, *];done) | (simp_all [aJ,wU];done) | (simp_all [aJ,wU];omega) | (simp [aJ,wU] <;> split <;> omega)
def rZ(x0:Int):Int:=if x0 > 2147483647 then 2147483647
 else if x0<(-2147483648)then(-2147483648)
  else x0
theorem aQv(x0:Int)(σ:List (List D))  :Ct prog 74 [.v (.int .i64 x0)] σ (fun r σ'=>r= .v (.int .i64 (rZ x0))/\σ'=σ):=by
 refine zf func74 ?_;refine aZ fun all K Z=>?_;simp;apply Z;clear Z K all;apply aF;refine aZ fun all K Z=>?_;simp;apply Z;clear Z K all;refine zI ?_ ?_<;>intro c1<;>try simp at c1
 .all_goals try (exfalso;omega)
  all_goals
   refine aZ fun all K Z=>?_;simp;apply Z;clear Z K all;apply aD;first | (simp [aJ,rZ,c1];done) | (simp [aJ,rZ];done) | (simp [aJ];unfold rZ;(repeat' split) <;> first | (exfalso;omega) | (simp_all;done)) | (simp [aJ,rZ, *];done) | (simp_all [aJ,rZ];done) | (simp_all [aJ,rZ];omega) | (simp [aJ,rZ] <;> split <;> omega)
 all_goals try (exfalso;omega)
 all_goals
  apply zA;apply aF;refine aZ fun all K Z=>?_;simp;apply Z;clear Z K all;refine zI ?_ ?_<;>intro c2<;>try simp at c2
  .all_goals try (exfalso;omega)
   all_goals
    refine aZ fun all K Z=>?_;simp;apply Z;clear Z K all;apply aD;first | (simp [aJ,rZ,c1,c2];done) | (simp [aJ,rZ];done) | (simp [aJ];unfold rZ;(repeat' split) <;> first | (exfalso;omega) | (simp_all;done)) | (simp [aJ,rZ, *];done) | (simp_all [aJ,rZ];done) | (simp_all [aJ,rZ];omega) | (simp [aJ,rZ] <;> split <;> omega)
  all_goals try (exfalso;omega)
  all_goals
   apply zA;refine aZ fun all K Z=>?_;simp;apply Z;clear Z K all;apply aD;first | (simp [aJ,rZ,c1,c2];done) | (simp [aJ,rZ];done) | (simp [aJ];unfold rZ;(repeat' split) <;> first | (exfalso;omega) | (simp_all;done)) | (simp [aJ,rZ, *];done) | (simp_all [aJ,rZ];done) | (simp_all [aJ,rZ];omega) | (simp [aJ,rZ] <;> split <;> omega)
def lG(x0:Int):Bool:=if x0>=97 then decide (x0<=122)
 else false
theorem Nm(x0:Int)(σ:List (List D))  :Ct prog 228 [.v (.int .u8 x0)] σ (fun r σ'=>r= .v (.bool (lG x0))/\σ'=σ):=by
 refine zf func228 ?_;refine aZ fun all K Z=>?_;simp;apply Z;clear Z K all;refine iU ⟨[],[],[],[],[]⟩ fun all hall K Z=>?_;have ga2:aK all 2=some 5:=hall 2;clear hall;refine zs 3 fun K' Y=>?_;simp[ga2];apply Y;clear Y K';refine zb 5 ?_ ?_<;>intro g1<;>try simp at g1
 .all_goals try (exfalso;omega)
  all_goals
   simp[ga2];apply Z;clear Z K ga2 all;apply aD;first | (simp [aJ,lG,g1];done) | (simp [aJ,lG];done) | (simp [aJ];unfold lG;(repeat' split) <;> first | (exfalso;omega) | (simp_all;done)) | (simp [aJ,lG, *];done) | (simp_all [aJ,lG];done) | (simp_all [aJ,lG];omega) | (simp [aJ,lG] <;> split <;> omega)
 all_goals try (exfalso;omega)
 all_goals
  simp[ga2];apply Z;clear Z K ga2 all;apply aD;first | (simp [aJ,lG,g1];done) | (simp [aJ,lG];done) | (simp [aJ];unfold lG;(repeat' split) <;> first | (exfalso;omega) | (simp_all;done)) | (simp [aJ,lG, *];done) | (simp_all [aJ,lG];done) | (simp_all [aJ,lG];omega) | (simp [aJ,lG] <;> split <;> omega)
def rH(x0:Int):Bool:=if x0>=48 then decide (x0<=57)
 else false
theorem aNt(x0:Int)(σ:List (List D))  :Ct prog 267 [.v (.int .u8 x0)] σ (fun r σ'=>r= .v (.bool (rH x0))/\σ'=σ):=by
 refine zf func267 ?_;refine aZ fun all K Z=>?_;simp;apply Z;clear Z K all;refine iU ⟨[],[],[],[],[]⟩ fun all hall K Z=>?_;have ga2:aK all 2=some 5:=hall 2;clear hall;refine zs 3 fun K' Y=>?_;simp[ga2];apply Y;clear Y K';refine zb 5 ?_ ?_<;>intro g1<;>try simp at g1
 .all_goals try (exfalso;omega)
  all_goals
   simp[ga2];apply Z;clear Z K ga2 all;apply aD;first | (simp [aJ,rH,g1];done) | (simp [aJ,rH];done) | (simp [aJ];unfold rH;(repeat' split) <;> first | (exfalso;omega) | (simp_all;done)) | (simp [aJ,rH, *];done) | (simp_all [aJ,rH];done) | (simp_all [aJ,rH];omega) | (simp [aJ,rH] <;> split <;> omega)
 all_goals try (exfalso;omega)
 all_goals
  simp[ga2];apply Z;clear Z K ga2 all;apply aD;first | (simp [aJ,rH,g1];done) | (simp [aJ,rH];done) | (simp [aJ];unfold rH;(repeat' split) <;> first | (exfalso;omega) | (simp_all;done)) | (simp [aJ,rH, *];done) | (simp_all [aJ,rH];done) | (simp_all [aJ,rH];omega) | (simp [aJ,rH] <;> split <;> omega)
def plain(x0:Int):Bool:=if(lG x0)=true then true
 else if(rH x0)=true then true
  else decide (x0=45)
theorem aI8(x0:Int)(σ:List (List D))  :Ct prog 254 [.v (.int .u8 x0)] σ (fun r σ'=>r= .v (.bool (plain x0))/\σ'=σ):=by
 refine zf func254 ?_;refine aZ fun all K Z=>?_;simp;apply Z;clear Z K all;refine iU ⟨[],[],[],[],[]⟩ fun all hall K Z=>?_;have ga2:aK all 2=some 5:=hall 2;have ga6:aK all 6=some 9:=hall 6;clear hall;refine zs 1 fun K' Y=>?_;simp[ga2,ga6];apply Y;clear Y K';refine aE fun K' Y=>?_;simp[ga2,ga6];refine bS (Nm x0 _) ?_;apply Y;clear Y K';refine zs 1 fun K' Y=>?_;simp[ga2,ga6];apply Y;clear Y K';refine zb 5 ?_ ?_<;>intro g1<;>try simp at g1
 .all_goals try (exfalso;omega)
  all_goals
   refine zs 4 fun K' Y=>?_;simp[ga2,ga6];apply Y;clear Y K';simp[ga2,ga6];apply Z;clear Z K ga2 ga6 all;apply aD;first | (simp [aJ,plain,g1];done) | (simp [aJ,plain];done) | (simp [aJ];unfold plain;(repeat' split) <;> first | (exfalso;omega) | (simp_all;done)) | (simp [aJ,plain, *];done) | (simp_all [aJ,plain];done) | (simp_all [aJ,plain];omega) | (simp [aJ,plain] <;> split <;> omega)
 all_goals try (exfalso;omega)
 all_goals
  refine zs 1 fun K' Y=>?_;simp[ga2,ga6];apply Y;clear Y K';refine zg ga2 fun K' Y=>?_;simp[ga2,ga6];refine bS (aNt x0 _) ?_;apply Y;clear Y K';refine zs 2 fun K' Y=>?_;simp[ga2,ga6];apply Y;clear Y K';refine zb 9 ?_ ?_<;>intro g2<;>try simp at g2
  .all_goals try (exfalso;omega)
   all_goals
    simp[ga2,ga6];apply Z;clear Z K ga2 ga6 all;apply aD;first | (simp [aJ,plain,g1,g2];done) | (simp [aJ,plain];done) | (simp [aJ];unfold plain;(repeat' split) <;> first | (exfalso;omega) | (simp_all;done)) | (simp [aJ,plain, *];done) | (simp_all [aJ,plain];done) | (simp_all [aJ,plain];omega) | (simp [aJ,plain] <;> split <;> omega)
  all_goals try (exfalso;omega)
  all_goals
   simp[ga2,ga6];apply Z;clear Z K ga2 ga6 all;apply aD;first | (simp [aJ,plain,g1,g2];done) | (simp [aJ,plain];done) | (simp [aJ];unfold plain;(repeat' split) <;> first | (exfalso;omega) | (simp_all;done)) | (simp [aJ,plain, *];done) | (simp_all [aJ,plain];done) | (simp_all [aJ,plain];omega) | (simp [aJ,plain] <;> split <;> omega)
def dR (x0 : Int) : Bool := if x0 >= 97 then if x0 <= 122 then true
  else if x0>=48 then if x0<=57 then true
    else decide (x0=45)
   else decide (x0=45)
 else if x0>=48 then if x0<=57 then true
   else decide (x0=45)
  else decide (x0=45)
theorem aD6 (x0 : Int) (σ : List (List D))  : Ct prog 216 [.v (.int .u8 x0)] σ (fun r σ' => r = .v (.bool (dR x0)) /\ σ' = σ) := by
 refine zf func216 ?_;refine aZ fun all K Z=>?_;simp;apply Z;clear Z K all;refine iU ⟨[],[],[],[],[]⟩ fun all hall K Z=>?_;have ga2:aK all 2=some 5:=hall 2;have ga6:aK all 6=some 9:=hall 6;have ga9:aK all 9=some 12:=hall 9;have ga14:aK all 14=some 17:=hall 14;clear hall;refine zs 3 fun K' Y=>?_;simp[ga2,ga6,ga9,ga14];apply Y;clear Y K';refine zb 5 ?_ ?_<;>intro g1<;>try simp at g1
 .all_goals try (exfalso;omega)
  all_goals
   refine zs 4 fun K' Y=>?_;simp[ga2,ga6,ga9,ga14];apply Y;clear Y K';refine zb 9 ?_ ?_<;>intro g2<;>try simp at g2
   .all_goals try (exfalso;omega)
    all_goals
     refine zs 8 fun K' Y=>?_;simp[ga2,ga6,ga9,ga14];apply Y;clear Y K';simp[ga2,ga6,ga9,ga14];apply Z;clear Z K ga2 ga6 ga9 ga14 all;apply aD;first | (simp [aJ,dR,g1,g2];done) | (simp [aJ,dR];done) | (simp [aJ];unfold dR;(repeat' split) <;> first | (exfalso;omega) | (simp_all;done)) | (simp [aJ,dR, *];done) | (simp_all [aJ,dR];done) | (simp_all [aJ,dR];omega) | (simp [aJ,dR] <;> split <;> omega)
   all_goals try (exfalso;omega)
   all_goals
    refine zs 3 fun K' Y=>?_;simp[ga2,ga6,ga9,ga14];apply Y;clear Y K';refine zb 12 ?_ ?_<;>intro g3<;>try simp at g3
    .all_goals try (exfalso;omega)
     all_goals
      refine zs 5 fun K' Y=>?_;simp[ga2,ga6,ga9,ga14];apply Y;clear Y K';refine zb 17 ?_ ?_<;>intro g4<;>try simp at g4
      .all_goals try (exfalso;omega)
       all_goals
        simp[ga2,ga6,ga9,ga14];apply Z;clear Z K ga2 ga6 ga9 ga14 all;apply aD;first | (simp [aJ,dR,g1,g2,g3,g4];done) | (simp [aJ,dR];done) | (simp [aJ];unfold dR;(repeat' split) <;> first | (exfalso;omega) | (simp_all;done)) | (simp [aJ,dR, *];done) | (simp_all [aJ,dR];done) | (simp_all [aJ,dR];omega) | (simp [aJ,dR] <;> split <;> omega)
      all_goals try (exfalso;omega)
      all_goals
       simp[ga2,ga6,ga9,ga14];apply Z;clear Z K ga2 ga6 ga9 ga14 all;apply aD;first | (simp [aJ,dR,g1,g2,g3,g4];done) | (simp [aJ,dR];done) | (simp [aJ];unfold dR;(repeat' split) <;> first | (exfalso;omega) | (simp_all;done)) | (simp [aJ,dR, *];done) | (simp_all [aJ,dR];done) | (simp_all [aJ,dR];omega) | (simp [aJ,dR] <;> split <;> omega)
    all_goals try (exfalso;omega)
    all_goals
     refine zs 5 fun K' Y=>?_;simp[ga2,ga6,ga9,ga14];apply Y;clear Y K';simp[ga2,ga6,ga9,ga14];apply Z;clear Z K ga2 ga6 ga9 ga14 all;apply aD;first | (simp [aJ,dR,g1,g2,g3];done) | (simp [aJ,dR];done) | (simp [aJ];unfold dR;(repeat' split) <;> first | (exfalso;omega) | (simp_all;done)) | (simp [aJ,dR, *];done) | (simp_all [aJ,dR];done) | (simp_all [aJ,dR];omega) | (simp [aJ,dR] <;> split <;> omega)
 all_goals try (exfalso;omega)
 all_goals
  refine zs 4 fun K' Y=>?_;simp[ga2,ga6,ga9,ga14];apply Y;clear Y K';refine zs 3 fun K' Y=>?_;simp[ga2,ga6,ga9,ga14];apply Y;clear Y K';refine zb 12 ?_ ?_<;>intro g5<;>try simp at g5
  .all_goals try (exfalso;omega)
   all_goals
    refine zs 5 fun K' Y=>?_;simp[ga2,ga6,ga9,ga14];apply Y;clear Y K';refine zb 17 ?_ ?_<;>intro g6<;>try simp at g6
    .all_goals try (exfalso;omega)
     all_goals
      simp[ga2,ga6,ga9,ga14];apply Z;clear Z K ga2 ga6 ga9 ga14 all;apply aD;first | (simp [aJ,dR,g1,g5,g6];done) | (simp [aJ,dR];done) | (simp [aJ];unfold dR;(repeat' split) <;> first | (exfalso;omega) | (simp_all;done)) | (simp [aJ,dR, *];done) | (simp_all [aJ,dR];done) | (simp_all [aJ,dR];omega) | (simp [aJ,dR] <;> split <;> omega)
    all_goals try (exfalso;omega)
    all_goals
     simp[ga2,ga6,ga9,ga14];apply Z;clear Z K ga2 ga6 ga9 ga14 all;apply aD;first | (simp [aJ,dR,g1,g5,g6];done) | (simp [aJ,dR];done) | (simp [aJ];unfold dR;(repeat' split) <;> first | (exfalso;omega) | (simp_all;done)) | (simp [aJ,dR, *];done) | (simp_all [aJ,dR];done) | (simp_all [aJ,dR];omega) | (simp [aJ,dR] <;> split <;> omega)
  all_goals try (exfalso;omega)
  all_goals
   refine zs 5 fun K' Y=>?_;simp[ga2,ga6,ga9,ga14];apply Y;clear Y K';simp[ga2,ga6,ga9,ga14];apply Z;clear Z K ga2 ga6 ga9 ga14 all;apply aD;first | (simp [aJ,dR,g1,g5];done) | (simp [aJ,dR];done) | (simp [aJ];unfold dR;(repeat' split) <;> first | (exfalso;omega) | (simp_all;done)) | (simp [aJ,dR, *];done) | (simp_all [aJ,dR];done) | (simp_all [aJ,dR];omega) | (simp [aJ,dR] <;> split <;> omega)
theorem aS0(x:Int):rZ x=wU x:=by
 unfold rZ wU
 repeat' split
 all_goals first | rfl | omega | skip
theorem aAo(x:Int):lG x=true↔97<=x/\x<=122:=by unfold lG;simp
theorem Ph(x:Int):plain x=true↔(97<=x/\x<=122)\/(48<=x/\x<=57)\/x=45:=by
 unfold plain lG rH;repeat' split
 all_goals simp_all
 all_goals omega
theorem Ys(x:Int):dR x=true↔(97<=x/\x<=122)\/(48<=x/\x<=57)\/x=45:=by
 unfold dR;repeat' split
 all_goals simp_all
 all_goals omega
theorem Pd(x:Int):dR x=plain x:=by rw [iP,Ys,Ph]
def Ei(s:ByteArray):Bool:=decide (1<=s.size/\s.size<=16) && Wq plain s
def dH(s:ByteArray):Bool:=Ei s && decide (97<=lV s 0)
theorem Uf(s:ByteArray):(s=⟨#[]⟩)↔s.size=0:=by
 constructor
 .rintro rfl;rfl
 intro h;cases s with
 | mk d=>
  have:d.size=0:=h;have:d=#[]:=by simpa using this
  rw [this]
theorem aQ9(s:ByteArray)(p:Int->Bool)(f:FuncId)(σ:List (List D))(hs:s.size<=9223372036854775807)(hp:∀x τ,Ct prog f [.v (.int .u8 x)] τ (fun r τ'=>r= .bool (p x)/\τ'=τ)):Ct prog 253 [D.str s,.clo (.func f) [] []] σ (fun r σ'=>r= .bool (Wq p s)/\σ'=σ):=by
 refine zf func253 ?_;refine aZ fun _ _ Z=>?_;simp;apply Z;apply aF;refine aZ fun _ _ Z=>?_;simp;and_intros<;>(try omega);apply Z;apply aR;refine zk [0,1,4,7,8] ?_;refine bA (fun(k:Nat)=> [(8,.d (.v (.int .i64 (k:Int)))),(5,.d (.any))]) [4,5,8,9,10,11,12,13,14,15,16,17] (fun(k:Nat)=>k<=s.size/\∀j,j<k->p (lV s j)=true) (fun(k:Nat)=>s.size - k) (0) (by simp <;> rfl) ?_ ?_ ?_
 .simp
 .simp
 rintro k ⟨hk,hh⟩;simp only [aQ,aP];refine aZ fun _ _ Z=>?_;simp;apply Z;apply aF;refine zI ?_ ?_<;>intro c1<;>try simp at c1
 .apply kB;refine aZ fun _ _ Z=>?_;simp;apply Z;refine aZ fun _ _ Z=>?_;refine zs 4 fun _ Y=>?_;simp;and_intros<;>(try omega);apply Y;refine aE fun _ Y=>?_;simp;refine bS (hp (lV s k) _) ?_;apply Y;simp;apply Z;refine zI ?_ ?_<;>intro c2<;>try simp at c2
  .refine zk [0,1,5,7,8] ?_;refine aZ fun _ _ Z=>?_;simp;apply Z;apply aD;simp [aJ];exact aMe (k:=k) (by simpa [lV] using c2) (by omega)
  apply nD;refine zk [0,1,5,7,8] ?_;refine mD fun _ _ Z=>?_;simp;and_intros<;>(try omega);apply Z;refine zq (k+1) ?_ ?_ ?_
  .exact⟨by omega,Ke hh (by simpa [lV] using c2)⟩
  .try dsimp only
   omega
  simp
 apply zE;refine aZ fun _ _ Z=>?_;simp;apply Z;apply aD;simp [aJ];exact aLo hh (by omega)
theorem aRa(s:ByteArray)(σ:List (List D))(hs:s.size<=9223372036854775807):Ct prog 227 [D.str s] σ (fun r σ'=>r= .bool (Ei s)/\σ'=σ):=by
 refine zf func227 ?_;refine aZ fun _ _ Z=>?_;simp;apply Z;refine iU ⟨[],[],[],[],[]⟩ fun all hall _ Z=>?_;have ga2:aK all 2=some 5:=hall 2;have ga7:aK all 7=some 10:=hall 7;refine zs 3 fun _ Y=>?_;simp[ga2,ga7];apply Y;refine zb 5 ?_ ?_<;>intro g1<;>try simp at g1
 .refine zs 5 fun _ Y=>?_;simp[ga2,ga7];and_intros<;>(try omega);apply Y;refine zb 10 ?_ ?_<;>intro g2<;>try simp at g2
  .refine zs 1 fun _ Y=>?_;simp[ga2,ga7];apply Y;refine zg ga7 fun _ Y=>?_;simp[ga2,ga7];refine bS (aQ9 s plain 254 _ hs (fun x τ=>aI8 x τ)) ?_;apply Y;simp[ga2,ga7];apply Z;apply aD;simp [aJ,Ei];rw [Uf] at g1
   intros;omega
  simp[ga2,ga7];apply Z;apply aD;simp [aJ,Ei]
  intros;omega
 refine zs 5 fun _ Y=>?_;simp[ga2,ga7];apply Y;simp[ga2,ga7];apply Z;apply aD;simp [aJ,Ei];rw [Uf] at g1
 intros;omega
theorem Ky (h:Ei s=true):0<s.size/\s.size<=16:=by
 unfold Ei at h;simp at h;omega
theorem Xu (h:Ei s=true):lG (lV s 0)=decide (97<=lV s 0):=by
 have hp:=(Ky h).1;unfold Ei at h;rw [gH] at h;have:=aSw h.2 0 hp;rw [Ph] at this;rw [iP,aAo,fF];omega
theorem uS(s:ByteArray)(σ:List (List D))(hs:s.size<=9223372036854775807):Ct prog 193 [D.str s] σ (fun r σ'=>r= .bool (dH s)/\σ'=σ):=by
 refine zf func193 ?_;refine aZ fun _ _ Z=>?_;simp;apply Z;refine iU ⟨[],[],[],[],[]⟩ fun all hall _ Z=>?_;have ga2:aK all 2=some 5:=hall 2;refine zs 1 fun _ Y=>?_;simp[ga2];apply Y;refine aE fun _ Y=>?_;simp[ga2];refine bS (aRa s _ hs) ?_;apply Y;refine zs 1 fun _ Y=>?_;simp[ga2];apply Y;refine zb 5 ?_ ?_<;>intro g1<;>try simp at g1
 .have hpos:=Ky g1;refine zs 2 fun _ Y=>?_;simp[ga2];and_intros<;>(try omega);apply Y;refine zg ga2 fun _ Y=>?_;simp[ga2];refine bS (Nm (lV s 0) _) ?_;apply Y;simp[ga2];apply Z;apply aD;simp [aJ,dH,g1,Xu g1]
 simp[ga2];apply Z;apply aD;simp [aJ,dH,g1]
theorem aCu(s:ByteArray)(σ:List (List D))(hs:s.size<=9223372036854775807):Ct prog 162 [D.str s] σ (fun r σ'=>r= .bool (Ei s)/\σ'=σ):=by
 refine zf func162 ?_;refine aZ fun _ _ Z=>?_;simp;apply Z;apply aF;refine aZ fun _ _ Z=>?_;simp;apply Z;apply aR;refine zk [0,2,3] ?_;refine bA (fun(k:Nat)=> [(3,.d (.v (.int .i64 (k:Int))))]) [2,3,4,5,6,7,8,9,10,11,12,13,14] (fun(k:Nat)=>k<=s.size/\∀j,j<k->plain (lV s j)=true) (fun(k:Nat)=>s.size - k) (0) (by simp <;> rfl) ?_ ?_ ?_
 .simp
 .simp
 rintro k ⟨hk,hh⟩;simp only [aQ,aP];apply aF;refine aZ fun _ _ Z=>?_;simp;and_intros<;>(try omega);apply Z;refine zI ?_ ?_<;>intro c1<;>try simp at c1
 .apply kB;refine aZ fun _ _ Z=>?_;refine zs 3 fun _ Y=>?_;simp;and_intros<;>(try omega);apply Y;refine aE fun _ Y=>?_;simp;refine bS (aD6 (lV s k) _) ?_;apply Y;simp;apply Z;refine zI ?_ ?_<;>intro c2<;>try simp at c2
  .refine aZ fun _ _ Z=>?_;simp;apply Z;apply aD;simp [aJ,Ei];intro _ _;exact aMe (k:=k) (by rw [<- Pd];simpa [lV] using c2) (by omega)
  apply nD;refine mD fun _ _ Z=>?_;simp;and_intros<;>(try omega);apply Z;refine zq (k+1) ?_ ?_ ?_
  .exact⟨by omega,Ke hh (by rw [<- Pd];simpa [lV] using c2)⟩
  .try dsimp only
   omega
  simp
 apply zE;refine iU ⟨[],[],[],[],[]⟩ fun all hall _ Z=>?_;have ga3:aK all 3=some 18:=hall 3;refine zs 4 fun _ Y=>?_;simp[ga3];and_intros<;>(try omega);apply Y;refine zb 18 ?_ ?_<;>intro g3<;>try simp at g3
 .simp[ga3];and_intros<;>(try omega);apply Z;apply aD;simp [aJ,Ei];have:=aLo (p:=plain) (s:=s) hh (by omega);simp [this];rw [iP];simp;omega
 simp[ga3];apply Z;apply aD;simp [aJ,Ei]
 intros;omega
theorem xB(s:ByteArray)(σ:List (List D))(hs:s.size<=9223372036854775807):Ct prog 71 [D.str s] σ (fun r σ'=>r= .bool (dH s)/\σ'=σ):=by
 refine zf func71 ?_;refine aZ fun _ _ Z=>?_;simp;apply Z;refine iU ⟨[],[],[],[],[]⟩ fun all hall _ Z=>?_;have ga2:aK all 2=some 5:=hall 2;refine zs 1 fun _ Y=>?_;simp[ga2];apply Y;refine aE fun _ Y=>?_;simp[ga2];refine bS (aCu s _ hs) ?_;apply Y;refine zs 1 fun _ Y=>?_;simp[ga2];apply Y;refine zb 5 ?_ ?_<;>intro g1<;>try simp at g1
 .have hpos:=Ky g1;simp[ga2];and_intros<;>(try omega);apply Z;apply aD;simp [aJ,dH,g1,lV];rfl
 simp[ga2];apply Z;apply aD;simp [aJ,dH,g1]
def tY(n:Nat)(s:ByteArray):ByteArray:=if n<s.size then s.extract 0 n else s
theorem tE(n:Nat)(s:ByteArray):(tY n s).size<=n:=by
 unfold tY;split
 .simp;omega
 omega
theorem Bm(s:ByteArray)(n:Nat)(σ:List (List D))(hn:n<=1000000):Ct prog 20 [D.str s,D.int n] σ (fun r σ'=>r= .v (.string (tY n s))/\σ'=σ):=by
 refine zf func20 ?_;refine aZ fun _ _ Z=>?_;simp;apply Z;apply aF;refine aZ fun _ _ Z=>?_;simp;and_intros<;>(try omega);apply Z;refine zI ?_ ?_<;>intro c1<;>try simp at c1
 .refine aZ fun _ _ Z=>?_;simp;and_intros<;>(try omega);apply Z;apply aD;simp [aJ,tY,c1]
 apply zA;refine aZ fun _ _ Z=>?_;simp;apply Z;apply aD;simp [aJ,tY];intro h;omega
abbrev Ls:=List ByteArray
@[simp] abbrev dl(l:Ls):D:= .sl false (l.map D.str)
@[simp] abbrev dlo(l:Ls):D:= .sl true (l.map D.str)
def qP(c:ByteArray)(l:Ls):Bool:=l.any fun x=>decide (x=c)
theorem Eg(c x:ByteArray)(l:Ls):qP c (l++ [x])=(qP c l || decide (x=c)):=by simp [qP]
theorem Mc {l:Ls} (h:k<l.length)(e:l[k]=c):qP c l=true:=by
 simp only [qP,nN,fF];exact⟨l[k],cJ h,e⟩
def rQ(l:Ls)(c:ByteArray):Ls:=if qP c l then l else l++ [c]
theorem aMv(l:Ls)(c:ByteArray):(rQ l c).length<=l.length+1:=by
 unfold rQ;split <;> simp
def Yu(c:ByteArray)(l:Ls):Int:=match l.findIdx? (fun x=>decide (x=c))with | some k=>k | none=> -1
theorem aQh {l:Ls} (h:k<l.length)(hh:qP c (l.take k)=false)(e:c=l[k]):Yu c l=k:=by
 have:l.findIdx? (fun x=>decide (x=c))=some k:=by
  rw [qT];refine⟨h,by simp [e],fun j hj=>?_⟩;simp only [qP,nQ,fF] at hh;have:=hh ((l.take k)[j]'(by simp;omega)) (cJ _);simpa using this
 simp [Yu,this]
theorem aHc {l:Ls} (h:qP c l=false):Yu c l= -1:=by
 have:l.findIdx? (fun x=>decide (x=c))=none:=by
  rw [qX];simpa [qP] using h
 simp [Yu,this]
theorem aMp(c:ByteArray)(l:Ls):(0<=Yu c l)↔qP c l=true:=by
 unfold Yu;split
 .rename_i k h;rw [qT] at h;obtain⟨hk,he,_⟩:=h;simp only [fF] at he;simp [Mc hk he]
 rename_i h;rw [qX] at h;simp [qP];intro e;have:=h c e;simp at this
def kY(l:Ls)(c:ByteArray):Ls:=l.filter fun x=> !decide (x=c)
theorem vY(l:Ls)(x c:ByteArray):kY (l++ [x]) c=kY l c++if x=c then [] else [x]:=by
 simp [kY,fZ,gT]
theorem Jh(l:Ls)(c:ByteArray)(k:Nat)(h:k<l.length):kY (l.take (k+1)) c=kY (l.take k) c++if l[k]=c then [] else [l[k]]:=by rw [bJ l k h,vY]
theorem Pq(l:Ls)(c:ByteArray):(kY l c).length<=l.length:=kO _ _
theorem Qw(l:Ls)(c:ByteArray)(σ:List (List D))(hl:l.length<=9223372036854775807):Ct prog 77 [dl l,D.str c] σ (fun r σ'=>r= .bool (qP c l)/\σ'=σ):=by
 refine zf func77 ?_;refine aZ fun _ _ Z=>?_;simp(disch:=omega);apply Z;apply aF;refine aZ fun _ _ Z=>?_;simp(disch:=omega);and_intros<;>(try omega);apply Z;apply aR;refine zk [1,4,7,8,9] ?_;refine bA (fun(k:Nat)=> [(9,.d (.int k))]) [4,6,9,10,11,12,13,14,15,16] (fun(k:Nat)=>k<=l.length/\qP c (l.take k)=false) (fun(k:Nat)=>l.length - k) (0) (by simp <;> rfl) ?_ ?_ ?_
 .simp
 .simp [qP]
 rintro k ⟨hk,hh⟩;simp only [aQ,aP];refine aZ fun _ _ Z=>?_;simp(disch:=omega);apply Z;apply aF;refine zI ?_ ?_<;>intro c1<;>try simp at c1
 .apply kB;refine aZ fun _ _ Z=>?_;simp(disch:=omega);and_intros<;>(try omega);apply Z;refine aZ fun _ _ Z=>?_;simp(disch:=omega);apply Z;refine zI ?_ ?_<;>intro c2<;>try simp at c2
  .refine aZ fun _ _ Z=>?_;simp(disch:=omega);apply Z;apply aD;simp [aJ];exact Mc c1 c2
  apply nD;refine mD fun _ _ Z=>?_;simp(disch:=omega);and_intros<;>(try omega);apply Z;refine zq (k+1) ?_ ?_ ?_
  .exact⟨by omega,by rw [bJ l k (by omega),Eg,hh];simp [*]⟩
  .try dsimp only
   omega
  simp(disch:=omega)
 apply zE;refine aZ fun _ _ Z=>?_;simp(disch:=omega);apply Z;apply aD;simp [aJ];rw [bZ (by omega)] at hh;exact hh
@[simp] abbrev q27_1:Cfg:=⟨[4,5,18,23],[],[],[],[]⟩
theorem aJx(l:Ls)(c:ByteArray)(σ:List (List D))(hl:l.length<=1000000):Ct prog 78 [dl l,D.str c] σ (fun r σ'=>r=dlo (kY l c)/\σ'=σ):=by
 refine zf func78 ?_;refine zr q27_1 fun _ _ Z=>?_;simp(disch:=omega);apply Z;refine zr q27_1 fun _ _ Z=>?_;simp(disch:=omega);and_intros<;>(try omega);apply Z;apply aF;refine zr q27_1 fun _ _ Z=>?_;simp(disch:=omega);and_intros<;>(try omega);apply Z;apply aR;refine zk [1,4,5,9,10,11] ?_;refine bA (fun(k:Nat)=> [(11,.d (.int k)),(5,.d (dlo (kY (l.take k) c)))]) [5,7,11,12,13,14,15,16,17,18,19,20,21,22] (fun(k:Nat)=>k<=l.length) (fun(k:Nat)=>l.length - k) (0) (by simp <;> rfl) ?_ ?_ ?_
 .simp [kY]
 .simp
 rintro k hk;simp only [aQ,aP];have hcl:=Pq (l.take k) c;simp only [bG] at hcl;refine zr q27_1 fun _ _ Z=>?_;simp(disch:=omega);apply Z;apply aF;refine zI ?_ ?_<;>intro c1<;>try simp at c1
 .apply kB;refine zr q27_1 fun _ _ Z=>?_;simp(disch:=omega);and_intros<;>(try omega);apply Z;refine zr q27_1 fun _ _ Z=>?_;simp(disch:=omega);apply Z;refine zI ?_ ?_<;>intro c2<;>try simp at c2
  .refine zk [1,4,5,7,9,10,11] ?_;refine zt q27_1 fun _ _ Z=>?_;simp(disch:=omega);and_intros<;>(try omega);apply Z;apply zB;refine zk [1,4,5,9,10,11] ?_;refine zt q27_1 fun _ _ Z=>?_;simp(disch:=omega);and_intros<;>(try omega);apply Z;refine zq (k+1) ?_ ?_ ?_
   .omega
   .try dsimp only
    omega
   simp(disch:=omega)[Jh,c2]
  apply nD;refine zk [1,4,5,9,10,11] ?_;refine zt q27_1 fun _ _ Z=>?_;simp(disch:=omega);and_intros<;>(try omega);apply Z;refine zq (k+1) ?_ ?_ ?_
  .omega
  .try dsimp only
   omega
  simp(disch:=omega)[Jh,c2]
 apply zE;refine zr q27_1 fun _ _ Z=>?_;simp(disch:=omega);apply Z;apply aD;simp [aJ];rw [bZ (by omega)]
theorem aM8(l:Ls)(c:ByteArray)(σ:List (List D))(hl:l.length<=9223372036854775807):Ct prog 255 [dl l,D.str c] σ (fun r σ'=>r= .int (Yu c l)/\σ'=σ):=by
 refine zf func255 ?_;refine aZ fun _ _ Z=>?_;simp(disch:=omega);apply Z;apply aF;refine aZ fun _ _ Z=>?_;simp(disch:=omega);and_intros<;>(try omega);apply Z;apply aR;refine zk [0,1,4,7,8] ?_;refine bA (fun(k:Nat)=> [(8,.d (.int k))]) [4,5,8,9,10,11,12,13,14,15,16,17,18] (fun(k:Nat)=>k<=l.length/\qP c (l.take k)=false) (fun(k:Nat)=>l.length - k) (0) (by simp <;> rfl) ?_ ?_ ?_
 .simp
 .simp [qP]
 rintro k ⟨hk,hh⟩;simp only [aQ,aP];refine aZ fun _ _ Z=>?_;simp(disch:=omega);apply Z;apply aF;refine zI ?_ ?_<;>intro c1<;>try simp at c1
 .apply kB;refine aZ fun _ _ Z=>?_;simp(disch:=omega);apply Z;refine aZ fun _ _ Z=>?_;simp(disch:=omega);and_intros<;>(try omega);apply Z;refine zI ?_ ?_<;>intro c2<;>try simp at c2
  .refine zk [0,1,5,7,8] ?_;refine aZ fun _ _ Z=>?_;simp(disch:=omega);apply Z;apply aD;simp [aJ];exact(aQh c1 hh c2).symm
  apply nD;refine zk [0,1,7,8] ?_;refine mD fun _ _ Z=>?_;simp(disch:=omega);and_intros<;>(try omega);apply Z;refine zq (k+1) ?_ ?_ ?_
  .exact⟨by omega,by rw [bJ l k (by omega),Eg,hh];simp;exact fun e=>c2 e.symm⟩
  .try dsimp only
   omega
  simp(disch:=omega)
 apply zE;refine aZ fun _ _ Z=>?_;simp(disch:=omega);apply Z;apply aD;simp [aJ];rw [bZ (by omega)] at hh;exact(aHc hh).symm
theorem Vs(l:Ls)(c:ByteArray)(σ:List (List D))(hl:l.length<=9223372036854775807):Ct prog 229 [dl l,D.str c] σ (fun r σ'=>r= .bool (qP c l)/\σ'=σ):=by
 refine zf func229 ?_;refine aZ fun _ _ Z=>?_;simp;apply Z;refine aZ fun _ _ Z=>?_;refine zs 2 fun _ Y=>?_;simp;apply Y;refine aE fun _ Y=>?_;simp;refine bS (aM8 _ _ _ hl) ?_;apply Y;simp;apply Z;apply aD;simp [aJ,aMp]
theorem zZ(l:Ls)(c:ByteArray)(σ:List (List D))(hl:l.length<=9223372036854775807):Ct prog 195 [dl l,D.str c] σ (fun r σ'=>r= .bool (qP c l)/\σ'=σ):=by
 refine zf func195 ?_;refine aZ fun _ _ Z=>?_;simp;apply Z;refine aZ fun _ _ Z=>?_;refine zs 2 fun _ Y=>?_;simp;apply Y;refine aE fun _ Y=>?_;simp;refine bS (Vs _ _ _ hl) ?_;apply Y;simp;apply Z;apply aD;simp[aJ]
theorem Lo(l:Ls)(σ:List (List D))(hl:l.length<=1000000):Ct prog 152 [dl l] σ (fun r σ'=>r=dlo l/\σ'=σ):=by
 refine zf func152 ?_;refine zr ⟨[2],[],[],[],[]⟩ fun _ _ Z=>?_;simp;apply Z;apply aF;refine zr ⟨[2],[],[],[],[]⟩ fun _ _ Z=>?_;refine zs 1 fun _ Y=>?_;simp;apply Y;refine aE fun _ Y=>?_;simp;refine⟨Y _ ?_,fun e1=>Y _ ?_⟩
 .simp only [cX];apply Z;refine aV (t:=false) (by simp) (fun h=>by cases h) (fun _=>?_);apply zA;refine zr ⟨[2],[],[],[],[]⟩ fun _ _ Z=>?_;simp;and_intros<;>(try omega);apply Z;apply aD;simp [aJ]
 simp only [cX];apply Z;refine aV (t:=true) (by simp) (fun _=>?_) (fun h=>by cases h);refine zr ⟨[2],[],[],[],[]⟩ fun _ _ Z=>?_;simp;apply Z;apply aD;simp [aJ,e1]
@[simp] abbrev q27_2:Cfg:=⟨[4,5,12,16],[],[],[],[]⟩
theorem aLn(l:Ls)(c:ByteArray)(σ:List (List D))(hl:l.length<=1000000):Ct prog 186 [dl l,D.str c] σ (fun r σ'=>r=dlo (rQ l c)/\σ'=σ):=by
 refine zf func186 ?_;refine zr q27_2 fun _ _ Z=>?_;simp;apply Z;refine zr q27_2 fun _ _ Z=>?_;refine zs 1 fun _ Y=>?_;simp;apply Y;refine aE fun _ Y=>?_;simp;refine bS (Lo _ _ hl) ?_;apply Y;simp;apply Z;apply aF;refine zr q27_2 fun _ _ Z=>?_;refine zs 2 fun _ Y=>?_;simp;apply Y;refine aE fun _ Y=>?_;simp;refine bS (zZ l _ _ (by omega)) ?_;apply Y;simp;apply Z;refine zI ?_ ?_<;>intro c1<;>try simp at c1
 .refine zt q27_2 fun _ _ Z=>?_;simp;and_intros<;>(try omega);apply Z;apply bY;refine zk [4,5] ?_;refine zr q27_2 fun _ _ Z=>?_;simp;apply Z;apply aD;simp [aJ,rQ,c1]
 apply zA;refine zr q27_2 fun _ _ Z=>?_;simp;apply Z;apply aD;simp [aJ,rQ,c1]
theorem Na(l:Ls)(p:ByteArray->Bool)(f:FuncId)(caps:List D)(m cap:Nat)(rest:List D)(σ:List (List D))(hl:l.length<=9223372036854775807)(hσ:σ[m]?=some (l.map D.str++rest))(hcp:∀d∈caps,d.plain=true)(hcs:caps.map D.strip=caps)(hp:∀x τ,Ct prog f (D.str x::caps) τ (fun r τ'=>r= .bool (p x)/\τ'=τ)):Ct prog 226 [.slo m 0 l.length cap,.clo (.func f) [] caps] σ (fun r σ'=>r= .int (wR p l)/\σ'=σ):=by
 refine zf func226 ?_;refine zr ⟨[],[],[],[7,14],[]⟩ fun _ _ Z=>?_;simp(disch:=omega)[hσ,hcs,fM];apply Z;apply aF;refine zr ⟨[],[],[],[7,14],[]⟩ fun _ _ Z=>?_;simp(disch:=omega)[hσ,hcs,fM];and_intros<;>(try omega);apply Z;apply aR;refine zk [0,1,4,7,8] ?_;refine bA (fun(k:Nat)=> [(8,.d (.v (.int .i64 (k:Int))))]) [4,5,8,9,10,11,12,13,14,15,16,17,18] (fun(k:Nat)=>k<=l.length/\∀x∈l.take k,p x=false) (fun(k:Nat)=>l.length - k) (0) (by simp <;> rfl) ?_ ?_ ?_
 .simp
 .simp
 rintro k ⟨hk,hh⟩;simp only [aQ,aP];refine zr ⟨[],[],[],[7,14],[]⟩ fun _ _ Z=>?_;simp(disch:=omega)[hσ,hcs,fM];apply Z;apply aF;refine zI ?_ ?_<;>intro c1<;>try simp at c1
 .apply kB;refine zr ⟨[],[],[],[7,14],[]⟩ fun _ _ Z=>?_;simp(disch:=omega)[hσ,hcs,fM];apply Z;refine zr ⟨[],[],[],[7,14],[]⟩ fun _ _ Z=>?_;refine zs 5 fun _ Y=>?_;simp(disch:=omega)[hσ,hcs,fM];and_intros<;>(try omega);apply Y;refine aE fun _ Y=>?_;simp(disch:=omega)[hσ,hcs,fM];refine⟨hcp,?_⟩;refine bS (hp l[k] _) ?_;apply Y;simp only [cX];apply Z;refine zI ?_ ?_<;>intro c2<;>try simp at c2
  .refine zk [0,1,5,7,8] ?_;refine zr ⟨[],[],[],[7,14],[]⟩ fun _ _ Z=>?_;simp(disch:=omega)[hσ,hcs,fM];apply Z;apply aD;simp [aJ];exact(Je c1 hh c2).symm
  apply nD;refine zk [0,1,7,8] ?_;refine zt ⟨[],[],[],[7,14],[]⟩ fun _ _ Z=>?_;simp(disch:=omega)[hσ,hcs,fM];and_intros<;>(try omega);apply Z;refine zq (k+1) ?_ ?_ ?_
  .exact⟨by omega,uH (by omega) hh c2⟩
  .try dsimp only
   omega
  simp(disch:=omega)[hσ,hcs,fM]
 apply zE;refine zr ⟨[],[],[],[7,14],[]⟩ fun _ _ Z=>?_;simp(disch:=omega)[hσ,hcs,fM];apply Z;apply aD;simp [aJ];rw [bZ (by omega)] at hh;exact(yZ hh).symm
theorem Mt(f:FuncId)(caps:List D)(σ:List (List D))(hcp:∀d∈caps,d.plain=true):Ct prog 226 [.xl 0,.clo (.func f) [] caps] σ (fun r σ'=>r= .int (-1)/\σ'=σ):=by
 refine zf func226 ?_;refine zr ⟨[],[],[],[7],[]⟩ fun _ _ Z=>?_;simp;apply Z;apply aF;refine zr ⟨[],[],[],[7],[]⟩ fun _ _ Z=>?_;simp;and_intros<;>(try omega);apply Z;apply aR;refine zk [0,1,4,7,8] ?_;refine bA (fun(k:Nat)=> [(8,.d (.int 0))]) [4,5,8,9,10,11,12,13,14,15,16,17,18] (fun(k:Nat)=>k=0) (fun(k:Nat)=>0) (0) (by simp <;> rfl) ?_ ?_ ?_
 .simp
 .rfl
 rintro k hk;simp only [aQ,aP];refine zr ⟨[],[],[],[7],[]⟩ fun _ _ Z=>?_;simp;apply Z;apply aF;refine zI ?_ ?_<;>intro c1<;>try simp at c1
 apply zE;refine zr ⟨[],[],[],[7],[]⟩ fun _ _ Z=>?_;simp;apply Z;apply aD;simp [aJ]
theorem Vi(p:ByteArray->Bool)(l k:Ls)(rest:List D):List.take k.length ((k++l).map D.str++rest)=k.map D.str:=by
 rw [cZ,bV,Qq (by simp)];rw [bZ (by simp)]
@[simp] abbrev q27_3:Cfg:=⟨[4,13],[],[],[18,24,33,38,41],[]⟩
theorem Kh(l:Ls)(p:ByteArray->Bool)(f:FuncId)(caps:List D)(σ:List (List D))(hl:l.length<=1000000)(hne:l≠ [])(hcp:∀d∈caps,d.plain=true)(hcs:caps.map D.strip=caps)(hp:∀x τ,Ct prog f (D.str x::caps) τ (fun r τ'=>r= .bool (p x)/\τ'=τ)):Ct prog 268 [.xs 1 (l.map D.str),.clo (.func f) [] caps] σ (fun r σ'=>r= .xs 1 ((l.filter fun x=> !p x).map D.str)/\σ'=σ++ [[]]):=by
 refine zf func268 ?_;refine sE 0 1 rfl (by decide) fun cap rest hcap hcm hrest hk0 hes=>?_;simp only [bU] at hcap hrest |-;rw [vH (f:=D.str) (fun _=>rfl)];refine zr q27_3 fun _ _ Z=>?_;simp(disch:=first|omega|assumption)[hcs,fM,iV];apply Z;refine zr q27_3 fun _ _ Z=>?_;refine zs 2 fun _ Y=>?_;simp(disch:=first|omega|assumption)[hcs,fM,iV];apply Y;refine aE fun _ Y=>?_;simp(disch:=first|omega|assumption)[hcs,fM,iV];refine bS (Na l p f caps σ.length cap rest _ (by omega) (by simp) hcp hcs hp) ?_;apply Y;simp(disch:=first|omega|assumption)[hcs,fM,iV];apply Z;apply aF;refine zr q27_3 fun _ _ Z=>?_;simp(disch:=first|omega|assumption)[hcs,fM,iV];apply Z;refine zI ?_ ?_<;>intro c1<;>try simp at c1
 .refine zr q27_3 fun _ _ Z=>?_;simp(disch:=first|omega|assumption)[hcs,fM,iV];apply Z;refine fK 4 1 σ.length l.length cap (l.map D.str) (l.map D.str++rest) (by simp <;> rfl) (by simp) (by omega) (by simp [hrest];omega) (by simp) (by simp) (by rw [vH (fun _=>rfl)];exact dB _ _) ?_;simp only [tA];apply aD;simp [aJ];rcases Bv p l with ⟨_,h⟩ | ⟨k,h,_⟩
  .rw [h]
  omega
 obtain⟨k0,e0,e1,e2,e3⟩:=Ks c1;rw [e0];apply zA;apply aF;refine zr q27_3 fun _ _ Z=>?_;simp(disch:=first|omega|assumption)[hcs,fM,iV];and_intros<;>try first|omega|exact rfl
 apply Z;apply aR;refine zk [0,1,4,5,6] ?_;refine kS (fun(j:Nat)=> [(5,.d (.v (.int .i64 ((kp p l j).length:Int)))),(6,.d (.v (.int .i64 (j:Int))))]) (fun(j:Nat)=> []) (fun(j:Nat)=> [(σ.length,(ar p l j).map D.str++rest)]) [5,6,7,16,17,18,19,20,21,22,23,24,25,26,27,28,29,30,31,32,33,34,35] (fun(j:Nat)=>j<=l.length) (fun(j:Nat)=>l.length - j) (k0+1) (by simp <;> rfl) ?_ (by simp) (by simp [e1]) ?_ ?_
 .simp [e1,e2]
 .omega
 rintro j hj;simp only [aQ,aP,lL,jP,gO,gA];have hkl:=Vt p l j hj;have hal:=Rg p l j;apply aF;refine zr q27_3 fun _ _ Z=>?_;simp(disch:=first|omega|assumption)[hcs,fM,iV];and_intros<;>try first|omega|exact rfl
 apply Z;refine zI ?_ ?_<;>intro c2<;>try simp at c2
 .apply kB;refine zr q27_3 fun _ _ Z=>?_;simp(disch:=first|omega|assumption)[hcs,fM,iV];and_intros<;>try first|omega|exact rfl
  apply Z;refine zk [0,1,4,5,6,7] ?_;refine zr q27_3 fun _ _ Z=>?_;refine zs 2 fun _ Y=>?_;simp(disch:=first|omega|assumption)[hcs,fM,iV];apply Y;refine aE fun _ Y=>?_;simp(disch:=first|omega|assumption)[hcs,fM,iV];simp only [aNp p l j (by omega)];refine⟨hcp,?_⟩;refine bS (hp l[j] _) ?_;apply Y;simp(disch:=first|omega|assumption)[hcs,fM,iV];apply Z;refine zI ?_ ?_<;>intro c3<;>try simp at c3
  .refine zr q27_3 fun _ _ Z=>?_;simp(disch:=first|omega|assumption)[hcs,fM,iV];and_intros<;>try first|omega|exact rfl
   apply Z;refine zk [0,1,4,5,6] ?_;refine zt q27_3 fun _ _ Z=>?_;simp(disch:=first|omega|assumption)[hcs,fM,iV];and_intros<;>try first|omega|exact rfl
   apply Z;apply zB;refine zt q27_3 fun _ _ Z=>?_;simp(disch:=first|omega|assumption)[hcs,fM,iV];and_intros<;>try first|omega|exact rfl
   apply Z;refine eG (j+1) ?_ ?_ (dT rfl ?_ (by simp) (by rw [<- (Hv p l j (by omega) c3).1];simp(disch:=omega) [aMq,hal]))
   .omega
   .try dsimp only
    omega
   simp(disch:=first|omega|assumption)[hcs,fM,iV,(Hv p l j (by omega) c3).2]
  apply nD;refine zt q27_3 fun _ _ Z=>?_;simp(disch:=first|omega|assumption)[hcs,fM,iV];and_intros<;>try first|omega|exact rfl
  apply Z;refine eG (j+1) ?_ ?_ (dT rfl ?_ (by simp) (by simp [(Ch p l j (by omega) c3).1]))
  .omega
  .try dsimp only
   omega
  simp(disch:=first|omega|assumption)[hcs,fM,iV,(Ch p l j (by omega) c3).2]
 apply zE;refine zr q27_3 fun _ _ Z=>?_;simp(disch:=first|omega|assumption)[hcs,fM,iV];and_intros<;>try first|omega|exact rfl
 apply Z;refine zk [0,4,5] ?_;refine zr q27_3 fun _ _ Z=>?_;simp(disch:=first|omega|assumption)[hcs,fM,iV];and_intros<;>try first|omega|exact rfl
 apply Z;refine fK 4 1 σ.length (kp p l j).length cap ((kp p l j).map D.str) ((kp p l j).map D.str++(jJ #[.string ⟨#[]⟩] (l.length - (kp p l j).length)++rest)) (by simp <;> rfl) (by rw [show List.map D.str (kp p l j)=List.take (kp p l j).length (List.map D.str (ar p l j)++rest)from(Vi p _ _ rest).symm];simp [jY (z:=#[.string ⟨#[]⟩]) (k:=1) rfl,show(kp p l j).length+(l.length - (kp p l j).length)=l.length by omega,aJ1 D.str (ar p l j) rest l.length hal.symm]) (by omega) (by simp [hrest,jY (z:=#[.string ⟨#[]⟩]) (k:=1) rfl];omega) (by simp) (by simp) (by rw [vH (fun _=>rfl)];exact dB _ _) ?_;simp only [tA];apply aD;simp [aJ];unfold kp;rw [bZ (by omega)]
theorem Lf(f:FuncId)(caps:List D)(σ:List (List D))(hcp:∀d∈caps,d.plain=true):Ct prog 268 [.xs 1 [],.clo (.func f) [] caps] σ (fun r σ'=>r= .xs 1 []/\σ'=σ):=by
 refine zf func268 ?_;refine zr ⟨[4,13],[],[],[],[]⟩ fun _ _ Z=>?_;simp;apply Z;refine zr ⟨[4,13],[],[],[],[]⟩ fun _ _ Z=>?_;refine zs 2 fun _ Y=>?_;simp;apply Y;refine aE fun _ Y=>?_;simp;refine bS (Mt f caps _ hcp) ?_;apply Y;simp;apply Z;apply aF;refine zr ⟨[4,13],[],[],[],[]⟩ fun _ _ Z=>?_;simp;apply Z;refine zI ?_ ?_<;>intro c1<;>try simp at c1
 refine zr ⟨[4,13],[],[],[],[]⟩ fun _ _ Z=>?_;simp;apply Z;apply aD;simp[aJ]
theorem aQg(N:Nat)(l:Ls):Sc N (.xs 1 (l.map D.str)):=Sc.xs fun d hd e he=>by
 obtain⟨a,_,rfl⟩:=aX.1 hd;simp [D.cells] at he;subst he;exact Sc.v _
theorem Mp(l:Ls)(p:ByteArray->Bool)(f:FuncId)(caps:List D)(σ:List (List D))(hl:l.length<=1000000)(hcp:∀d∈caps,d.plain=true)(hcs:caps.map D.strip=caps)(hp:∀x τ,Ct prog f (D.str x::caps) τ (fun r τ'=>r= .bool (p x)/\τ'=τ)):
  Ct prog 268 [.xs 1 (l.map D.str),.clo (.func f) [] caps] σ (fun r σ'=>r= .xs 1 ((l.filter fun x=> !p x).map D.str)/\σ'=σ):=by
 by_cases hne:l= []
 .subst hne;exact Lf f caps σ hcp
 exact(Kh l p f caps σ hl hne hcp hcs hp).trim fun r σ' ⟨hr,hs⟩=>⟨σ, [[]],hs,rfl,by rw [hr];exact aQg _ _,fun n cs h=> .inl h,hr,rfl⟩
theorem Xs(l:Ls)(σ:List (List D))(hl:l.length<=1000000):Ct prog 152 [dl l] σ (fun r σ'=>wJ 1 (l.map D.str) r/\σ'=σ):=by
 refine zf func152 ?_;refine zr ⟨[2],[],[],[7],[]⟩ fun _ _ Z=>?_;simp(disch:=first|omega|assumption);apply Z;apply aF;refine zr ⟨[2],[],[],[7],[]⟩ fun _ _ Z=>?_;refine zs 1 fun _ Y=>?_;simp(disch:=first|omega|assumption);apply Y;refine aE fun _ Y=>?_;simp(disch:=first|omega|assumption);refine⟨Y _ ?_,fun e1=>Y _ ?_⟩
 .simp only [cX];apply Z;refine aV (t:=false) (by simp) (fun h=>by cases h) (fun _=>?_);apply zA;refine zr ⟨[2],[],[],[7],[]⟩ fun _ _ Z=>?_;simp(disch:=first|omega|assumption);and_intros<;>try first|omega|exact rfl
  apply Z;apply aD;simp [aJ,wJ]
 simp only [cX];apply Z;refine aV (t:=true) (by simp) (fun _=>?_) (fun h=>by cases h);refine zr ⟨[2],[],[],[7],[]⟩ fun _ _ Z=>?_;simp(disch:=first|omega|assumption);apply Z;apply aD;simp [aJ,wJ,e1]
theorem aE0(l:Ls)(σ:List (List D))(hl:l.length<=1000000):Ct prog 152 [dl l] σ (fun r σ'=>r= .xs 1 (l.map D.str)/\σ'=σ):=(Xs l σ hl).toX fun _ _ h=>h
theorem aAr(l:Ls)(p:ByteArray->Bool)(f:FuncId)(caps:List D)(σ:List (List D))(hl:l.length<=1000000)(hcp:∀d∈caps,d.plain=true)(hcs:caps.map D.strip=caps)(hp:∀x τ,Ct prog f (D.str x::caps) τ (fun r τ'=>r= .bool (p x)/\τ'=τ)):Ct prog 256 [dl l,.clo (.func f) [] caps] σ (fun r σ'=>r= .xs 1 ((l.filter fun x=> !p x).map D.str)/\σ'=σ):=by
 refine zf func256 ?_;refine zr ⟨[4,7,8],[],[],[],[]⟩ fun _ _ Z=>?_;simp;apply Z;refine zr ⟨[4,7,8],[],[],[],[]⟩ fun _ _ Z=>?_;refine zs 1 fun _ Y=>?_;simp;apply Y;refine aE fun _ Y=>?_;simp;refine bS (aE0 l _ hl) ?_;apply Y;refine zs 1 fun _ Y=>?_;simp;apply Y;refine aE fun _ Y=>?_;simp;refine bS (Mp l p f caps _ hl hcp hcs hp) ?_;apply Y;simp;apply Z;apply aD;simp[aJ]
theorem aH6(x c:ByteArray)(σ:List (List D))  :Ct prog 257 [D.str x,.adr [D.str c]] σ (fun r σ'=>r= .bool (decide (x=c))/\σ'=σ):=by
 refine zf func257 ?_;refine aZ fun _ _ Z=>?_;simp;apply Z;refine aZ fun _ _ Z=>?_;simp;apply Z;apply aD;simp[aJ]
theorem aEy(l:Ls)(c:ByteArray)(σ:List (List D))(hl:l.length<=1000000):Ct prog 230 [dl l,D.str c] σ (fun r σ'=>r= .xs 1 ((kY l c).map D.str)/\σ'=σ):=by
 refine zf func230 ?_;refine zr ⟨[4],[3],[],[],[]⟩ fun _ _ Z=>?_;simp;apply Z;refine zr ⟨[4],[3],[],[],[]⟩ fun _ _ Z=>?_;refine zs 2 fun _ Y=>?_;simp;and_intros<;>(try omega);apply Y;refine aE fun _ Y=>?_;simp;refine bS (aAr l (fun x=>decide (x=c)) 257 [.adr [D.str c]] _ hl (by simp) (by simp) (fun x τ=>aH6 x c τ)) ?_;apply Y;simp;apply Z;apply aD;simp [aJ,kY]
theorem aJz(l:Ls)(c:ByteArray)(σ:List (List D))(hl:l.length<=1000000):Ct prog 230 [dl l,D.str c] σ (fun r σ'=>r=dl (kY l c)/\σ'=σ):=(aEy l c σ hl).freeze fun _ _ h=>h
end Go.Proofs.YtbgfljpnhhdkoaaGreat
