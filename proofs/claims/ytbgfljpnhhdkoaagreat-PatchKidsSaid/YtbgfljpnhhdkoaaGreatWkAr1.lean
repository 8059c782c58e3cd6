import Derived.Test.YtbgfljpnhhdkoaaGreatVmTab
import Derived.Test.YtbgfljpnhhdkoaaGreatVmZ
open Go.Proofs.Tryz
namespace Go.Proofs.YtbgfljpnhhdkoaaGreat
open Go Go.Vm
set_option maxRecDepth 20000
set_option linter.all false
set_option maxHeartbeats 8000000
def gE(s:ByteArray)(k:Nat):Int:=((s.data[k]?.getD 0).toNat:Int)
def Iq(p:Int→Bool)(s:ByteArray):Bool:=(List.range s.size).all fun k=>p (gE s k)
theorem Yt {p:Int→Bool} {s:ByteArray} {k:Nat} (h:∀j,j<k→p (gE s j)=true)(hk:s.size≤k):Iq p s=true:=by
 unfold Iq;rw [List.all_eq_true];intro j hj;exact h j (by have:=List.mem_range.1 hj;omega)
theorem aAt {p:Int→Bool} {s:ByteArray} {k:Nat} (h:p (gE s k)=false)(hk:k<s.size):Iq p s=false:=by
 rw [← Bool.not_eq_true];intro hh;unfold Iq at hh;rw [List.all_eq_true] at hh;have:=hh k (List.mem_range.2 hk);rw [h] at this;cases this
theorem aIt {p:Int→Bool} {s:ByteArray} (h:Iq p s=true)(k:Nat)(hk:k<s.size):p (gE s k)=true:=by
 unfold Iq at h;rw [List.all_eq_true] at h;exact h k (List.mem_range.2 hk)
theorem Bz {p:Int→Bool} {s:ByteArray} {k:Nat} (h:∀j,j<k→p (gE s j)=true)(h2:p (gE s k)=true):∀j,j<k+1→p (gE s j)=true:=fun j hj=>by
 rcases Nat.lt_succ_iff_lt_or_eq.1 hj with h1 | rfl
 ·exact h j h1
 exact h2
def Cf(x0:Int)(x1:Int)(x2:Int):Int:=max x1 (min x0 x2)
theorem aFf(x0:Int)(x1:Int)(x2:Int)(σ:List (List D))  :Ct prog 131 [.v (.int .i64 x0),.v (.int .i64 x1),.v (.int .i64 x2)] σ (fun r σ'=>r= .v (.int .i64 (Cf x0 x1 x2))∧σ'=σ):=by
 refine zf (rs:=[.tmp 6]) func131 ntmps131 results131 ?_;simp only [aN];refine aW fun all K Z=>?_;simp;apply Z;clear Z K all;refine aW fun all K Z=>?_;simp;and_intros<;>(try omega);apply Z;clear Z K all;apply aC;first | (simp [aK,Cf];done) | (simp [aK,Cf];done) | (simp [aK];unfold Cf;(repeat' split) <;> first | (exfalso;omega) | (simp_all;done)) | (simp [aK,Cf, *];done) | (simp_all [aK,Cf];done) | (simp_all [aK,Cf];omega) | (simp [aK,Cf] <;> split <;> omega)
def Hs(x0:Int):Int:=max (-2147483648) (min x0 2147483647)
theorem aI6(x0:Int)(σ:List (List D))  :Ct prog 238 [.v (.int .i64 x0)] σ (fun r σ'=>r= .v (.int .i64 (Hs x0))∧σ'=σ):=by
 refine zf (rs:=[.tmp 2]) func238 ntmps238 results238 ?_;simp only [aN];refine aW fun all K Z=>?_;simp;apply Z;clear Z K all;refine aW fun all K Z=>?_;simp;and_intros<;>(try omega);apply Z;clear Z K all;apply aC;first | (simp [aK,Hs];done) | (simp [aK,Hs];done) | (simp [aK];unfold Hs;(repeat' split) <;> first | (exfalso;omega) | (simp_all;done)) | (simp [aK,Hs, *];done) | (simp_all [aK,Hs];done) | (simp_all [aK,Hs];omega) | (simp [aK,Hs] <;> split <;> omega)
def lV(x0:Int):Int:=if x0 > 2147483647 then 2147483647
 else if x0<(-2147483648)then(-2147483648)
  else x0
theorem aD9(x0:Int)(σ:List (List D))  :Ct prog 74 [.v (.int .i64 x0)] σ (fun r σ'=>r= .v (.int .i64 (lV x0))∧σ'=σ):=by
 refine zf (rs:=[.tmp 2]) func74 ntmps74 results74 ?_;simp only [aN];refine aW fun all K Z=>?_;simp;apply Z;clear Z K all;apply aB;refine aW fun all K Z=>?_;simp;apply Z;clear Z K all;refine zi ?_;refine⟨fun c1=>?_,fun c1=>?_⟩
 ·try simp at c1
  all_goals try (exfalso;omega)
  all_goals
   refine aW fun all K Z=>?_;simp;apply Z;clear Z K all;apply aC;apply aI;first | (simp [aK,lV,c1];done) | (simp [aK,lV];done) | (simp [aK];unfold lV;(repeat' split) <;> first | (exfalso;omega) | (simp_all;done)) | (simp [aK,lV, *];done) | (simp_all [aK,lV];done) | (simp_all [aK,lV];omega) | (simp [aK,lV] <;> split <;> omega)
 try simp at c1
 all_goals try (exfalso;omega)
 all_goals
  apply aD;apply aA;apply aB;refine aW fun all K Z=>?_;simp;apply Z;clear Z K all;refine zi ?_;refine⟨fun c2=>?_,fun c2=>?_⟩
  ·try simp at c2
   all_goals try (exfalso;omega)
   all_goals
    refine aW fun all K Z=>?_;simp;apply Z;clear Z K all;apply aC;apply aI;first | (simp [aK,lV,c1,c2];done) | (simp [aK,lV];done) | (simp [aK];unfold lV;(repeat' split) <;> first | (exfalso;omega) | (simp_all;done)) | (simp [aK,lV, *];done) | (simp_all [aK,lV];done) | (simp_all [aK,lV];omega) | (simp [aK,lV] <;> split <;> omega)
  try simp at c2
  all_goals try (exfalso;omega)
  all_goals
   apply aD;apply aA;refine aW fun all K Z=>?_;simp;apply Z;clear Z K all;apply aC;first | (simp [aK,lV,c1,c2];done) | (simp [aK,lV];done) | (simp [aK];unfold lV;(repeat' split) <;> first | (exfalso;omega) | (simp_all;done)) | (simp [aK,lV, *];done) | (simp_all [aK,lV];done) | (simp_all [aK,lV];omega) | (simp [aK,lV] <;> split <;> omega)
def gG(x0:Int):Bool:=if x0≥97 then decide (x0≤122)
 else false
theorem Cv(x0:Int)(σ:List (List D))  :Ct prog 228 [.v (.int .u8 x0)] σ (fun r σ'=>r= .v (.bool (gG x0))∧σ'=σ):=by
 refine zf (rs:=[.tmp 2]) func228 ntmps228 results228 ?_;simp only [aN];refine aW fun all K Z=>?_;simp;apply Z;clear Z K all;refine kX ⟨[],[],[],[],[]⟩ fun all hall K Z=>?_;have ga2:aO all 2=some 5:=hall 2;clear hall;refine zs 3 fun K' Y=>?_;simp[ga2];apply Y;clear Y K';refine aS 5 (by simp <;> rfl) ?_;refine⟨fun g1=>?_,fun g1=>?_⟩
 ·try simp at g1
  all_goals try (exfalso;omega)
  all_goals
   simp[ga2];apply Z;clear Z K ga2 all;apply aC;first | (simp [aK,gG,g1];done) | (simp [aK,gG];done) | (simp [aK];unfold gG;(repeat' split) <;> first | (exfalso;omega) | (simp_all;done)) | (simp [aK,gG, *];done) | (simp_all [aK,gG];done) | (simp_all [aK,gG];omega) | (simp [aK,gG] <;> split <;> omega)
 try simp at g1
 all_goals try (exfalso;omega)
 all_goals
  simp[ga2];apply Z;clear Z K ga2 all;apply aC;first | (simp [aK,gG,g1];done) | (simp [aK,gG];done) | (simp [aK];unfold gG;(repeat' split) <;> first | (exfalso;omega) | (simp_all;done)) | (simp [aK,gG, *];done) | (simp_all [aK,gG];done) | (simp_all [aK,gG];omega) | (simp [aK,gG] <;> split <;> omega)
def kZ(x0:Int):Bool:=if x0≥48 then decide (x0≤57)
 else false
theorem aAz(x0:Int)(σ:List (List D))  :Ct prog 267 [.v (.int .u8 x0)] σ (fun r σ'=>r= .v (.bool (kZ x0))∧σ'=σ):=by
 refine zf (rs:=[.tmp 2]) func267 ntmps267 results267 ?_;simp only [aN];refine aW fun all K Z=>?_;simp;apply Z;clear Z K all;refine kX ⟨[],[],[],[],[]⟩ fun all hall K Z=>?_;have ga2:aO all 2=some 5:=hall 2;clear hall;refine zs 3 fun K' Y=>?_;simp[ga2];apply Y;clear Y K';refine aS 5 (by simp <;> rfl) ?_;refine⟨fun g1=>?_,fun g1=>?_⟩
 ·try simp at g1
  all_goals try (exfalso;omega)
  all_goals
   simp[ga2];apply Z;clear Z K ga2 all;apply aC;first | (simp [aK,kZ,g1];done) | (simp [aK,kZ];done) | (simp [aK];unfold kZ;(repeat' split) <;> first | (exfalso;omega) | (simp_all;done)) | (simp [aK,kZ, *];done) | (simp_all [aK,kZ];done) | (simp_all [aK,kZ];omega) | (simp [aK,kZ] <;> split <;> omega)
 try simp at g1
 all_goals try (exfalso;omega)
 all_goals
  simp[ga2];apply Z;clear Z K ga2 all;apply aC;first | (simp [aK,kZ,g1];done) | (simp [aK,kZ];done) | (simp [aK];unfold kZ;(repeat' split) <;> first | (exfalso;omega) | (simp_all;done)) | (simp [aK,kZ, *];done) | (simp_all [aK,kZ];done) | (simp_all [aK,kZ];omega) | (simp [aK,kZ] <;> split <;> omega)
def plain(x0:Int):Bool:=if(gG x0)=true then true
 else if(kZ x0)=true then true
  else decide (x0=45)
theorem Zz(x0:Int)(σ:List (List D))  :Ct prog 254 [.v (.int .u8 x0)] σ (fun r σ'=>r= .v (.bool (plain x0))∧σ'=σ):=by
 refine zf (rs:=[.tmp 2]) func254 ntmps254 results254 ?_;simp only [aN];refine aW fun all K Z=>?_;simp;apply Z;clear Z K all;refine kX ⟨[],[],[],[],[]⟩ fun all hall K Z=>?_;have ga2:aO all 2=some 5:=hall 2;have ga6:aO all 6=some 9:=hall 6;clear hall;refine zs 1 fun K' Y=>?_;simp[ga2,ga6];apply Y;clear Y K';refine aE fun K' Y=>?_;simp[ga2,ga6];refine bX (Cv x0 _) ?_;apply Y;clear Y K';refine zs 1 fun K' Y=>?_;simp[ga2,ga6];apply Y;clear Y K';refine aS 5 (by simp <;> rfl) ?_;refine⟨fun g1=>?_,fun g1=>?_⟩
 ·try simp at g1
  all_goals try (exfalso;omega)
  all_goals
   refine zs 4 fun K' Y=>?_;simp[ga2,ga6];apply Y;clear Y K';simp[ga2,ga6];apply Z;clear Z K ga2 ga6 all;apply aC;first | (simp [aK,plain,g1];done) | (simp [aK,plain];done) | (simp [aK];unfold plain;(repeat' split) <;> first | (exfalso;omega) | (simp_all;done)) | (simp [aK,plain, *];done) | (simp_all [aK,plain];done) | (simp_all [aK,plain];omega) | (simp [aK,plain] <;> split <;> omega)
 try simp at g1
 all_goals try (exfalso;omega)
 all_goals
  refine zs 1 fun K' Y=>?_;simp[ga2,ga6];apply Y;clear Y K';refine zg ga2 fun K' Y=>?_;simp[ga2,ga6];refine bX (aAz x0 _) ?_;apply Y;clear Y K';refine zs 2 fun K' Y=>?_;simp[ga2,ga6];apply Y;clear Y K';refine aS 9 (by simp <;> rfl) ?_;refine⟨fun g2=>?_,fun g2=>?_⟩
  ·try simp at g2
   all_goals try (exfalso;omega)
   all_goals
    simp[ga2,ga6];apply Z;clear Z K ga2 ga6 all;apply aC;first | (simp [aK,plain,g1,g2];done) | (simp [aK,plain];done) | (simp [aK];unfold plain;(repeat' split) <;> first | (exfalso;omega) | (simp_all;done)) | (simp [aK,plain, *];done) | (simp_all [aK,plain];done) | (simp_all [aK,plain];omega) | (simp [aK,plain] <;> split <;> omega)
  try simp at g2
  all_goals try (exfalso;omega)
  all_goals
   simp[ga2,ga6];apply Z;clear Z K ga2 ga6 all;apply aC;first | (simp [aK,plain,g1,g2];done) | (simp [aK,plain];done) | (simp [aK];unfold plain;(repeat' split) <;> first | (exfalso;omega) | (simp_all;done)) | (simp [aK,plain, *];done) | (simp_all [aK,plain];done) | (simp_all [aK,plain];omega) | (simp [aK,plain] <;> split <;> omega)
def cK (x0 : Int) : Bool := if x0 ≥ 97 then if x0 ≤ 122 then true
  else if x0≥48 then if x0≤57 then true
    else decide (x0=45)
   else decide (x0=45)
 else if x0≥48 then if x0≤57 then true
   else decide (x0=45)
  else decide (x0=45)
theorem Sk (x0 : Int) (σ : List (List D))  : Ct prog 216 [.v (.int .u8 x0)] σ (fun r σ' => r = .v (.bool (cK x0)) ∧ σ' = σ) := by
 refine zf (rs:=[.tmp 2]) func216 ntmps216 results216 ?_;simp only [aN];refine aW fun all K Z=>?_;simp;apply Z;clear Z K all;refine kX ⟨[],[],[],[],[]⟩ fun all hall K Z=>?_;have ga2:aO all 2=some 5:=hall 2;have ga6:aO all 6=some 9:=hall 6;have ga9:aO all 9=some 12:=hall 9;have ga14:aO all 14=some 17:=hall 14;clear hall;refine zs 3 fun K' Y=>?_;simp[ga2,ga6,ga9,ga14];apply Y;clear Y K';refine aS 5 (by simp <;> rfl) ?_;refine⟨fun g1=>?_,fun g1=>?_⟩
 ·try simp at g1
  all_goals try (exfalso;omega)
  all_goals
   refine zs 4 fun K' Y=>?_;simp[ga2,ga6,ga9,ga14];apply Y;clear Y K';refine aS 9 (by simp <;> rfl) ?_;refine⟨fun g2=>?_,fun g2=>?_⟩
   ·try simp at g2
    all_goals try (exfalso;omega)
    all_goals
     refine zs 8 fun K' Y=>?_;simp[ga2,ga6,ga9,ga14];apply Y;clear Y K';simp[ga2,ga6,ga9,ga14];apply Z;clear Z K ga2 ga6 ga9 ga14 all;apply aC;first | (simp [aK,cK,g1,g2];done) | (simp [aK,cK];done) | (simp [aK];unfold cK;(repeat' split) <;> first | (exfalso;omega) | (simp_all;done)) | (simp [aK,cK, *];done) | (simp_all [aK,cK];done) | (simp_all [aK,cK];omega) | (simp [aK,cK] <;> split <;> omega)
   try simp at g2
   all_goals try (exfalso;omega)
   all_goals
    refine zs 3 fun K' Y=>?_;simp[ga2,ga6,ga9,ga14];apply Y;clear Y K';refine aS 12 (by simp <;> rfl) ?_;refine⟨fun g3=>?_,fun g3=>?_⟩
    ·try simp at g3
     all_goals try (exfalso;omega)
     all_goals
      refine zs 5 fun K' Y=>?_;simp[ga2,ga6,ga9,ga14];apply Y;clear Y K';refine aS 17 (by simp <;> rfl) ?_;refine⟨fun g4=>?_,fun g4=>?_⟩
      ·try simp at g4
       all_goals try (exfalso;omega)
       all_goals
        simp[ga2,ga6,ga9,ga14];apply Z;clear Z K ga2 ga6 ga9 ga14 all;apply aC;first | (simp [aK,cK,g1,g2,g3,g4];done) | (simp [aK,cK];done) | (simp [aK];unfold cK;(repeat' split) <;> first | (exfalso;omega) | (simp_all;done)) | (simp [aK,cK, *];done) | (simp_all [aK,cK];done) | (simp_all [aK,cK];omega) | (simp [aK,cK] <;> split <;> omega)
      try simp at g4
      all_goals try (exfalso;omega)
      all_goals
       simp[ga2,ga6,ga9,ga14];apply Z;clear Z K ga2 ga6 ga9 ga14 all;apply aC;first | (simp [aK,cK,g1,g2,g3,g4];done) | (simp [aK,cK];done) | (simp [aK];unfold cK;(repeat' split) <;> first | (exfalso;omega) | (simp_all;done)) | (simp [aK,cK, *];done) | (simp_all [aK,cK];done) | (simp_all [aK,cK];omega) | (simp [aK,cK] <;> split <;> omega)
    try simp at g3
    all_goals try (exfalso;omega)
    all_goals
     refine zs 5 fun K' Y=>?_;simp[ga2,ga6,ga9,ga14];apply Y;clear Y K';simp[ga2,ga6,ga9,ga14];apply Z;clear Z K ga2 ga6 ga9 ga14 all;apply aC;first | (simp [aK,cK,g1,g2,g3];done) | (simp [aK,cK];done) | (simp [aK];unfold cK;(repeat' split) <;> first | (exfalso;omega) | (simp_all;done)) | (simp [aK,cK, *];done) | (simp_all [aK,cK];done) | (simp_all [aK,cK];omega) | (simp [aK,cK] <;> split <;> omega)
 try simp at g1
 all_goals try (exfalso;omega)
 all_goals
  refine zs 4 fun K' Y=>?_;simp[ga2,ga6,ga9,ga14];apply Y;clear Y K';refine zs 3 fun K' Y=>?_;simp[ga2,ga6,ga9,ga14];apply Y;clear Y K';refine aS 12 (by simp <;> rfl) ?_;refine⟨fun g5=>?_,fun g5=>?_⟩
  ·try simp at g5
   all_goals try (exfalso;omega)
   all_goals
    refine zs 5 fun K' Y=>?_;simp[ga2,ga6,ga9,ga14];apply Y;clear Y K';refine aS 17 (by simp <;> rfl) ?_;refine⟨fun g6=>?_,fun g6=>?_⟩
    ·try simp at g6
     all_goals try (exfalso;omega)
     all_goals
      simp[ga2,ga6,ga9,ga14];apply Z;clear Z K ga2 ga6 ga9 ga14 all;apply aC;first | (simp [aK,cK,g1,g5,g6];done) | (simp [aK,cK];done) | (simp [aK];unfold cK;(repeat' split) <;> first | (exfalso;omega) | (simp_all;done)) | (simp [aK,cK, *];done) | (simp_all [aK,cK];done) | (simp_all [aK,cK];omega) | (simp [aK,cK] <;> split <;> omega)
    try simp at g6
    all_goals try (exfalso;omega)
    all_goals
     simp[ga2,ga6,ga9,ga14];apply Z;clear Z K ga2 ga6 ga9 ga14 all;apply aC;first | (simp [aK,cK,g1,g5,g6];done) | (simp [aK,cK];done) | (simp [aK];unfold cK;(repeat' split) <;> first | (exfalso;omega) | (simp_all;done)) | (simp [aK,cK, *];done) | (simp_all [aK,cK];done) | (simp_all [aK,cK];omega) | (simp [aK,cK] <;> split <;> omega)
  try simp at g5
  all_goals try (exfalso;omega)
  all_goals
   refine zs 5 fun K' Y=>?_;simp[ga2,ga6,ga9,ga14];apply Y;clear Y K';simp[ga2,ga6,ga9,ga14];apply Z;clear Z K ga2 ga6 ga9 ga14 all;apply aC;first | (simp [aK,cK,g1,g5];done) | (simp [aK,cK];done) | (simp [aK];unfold cK;(repeat' split) <;> first | (exfalso;omega) | (simp_all;done)) | (simp [aK,cK, *];done) | (simp_all [aK,cK];done) | (simp_all [aK,cK];omega) | (simp [aK,cK] <;> split <;> omega)
theorem aIe(x:Int):lV x=Hs x:=by
 unfold lV Hs
 repeat' split
 all_goals first | rfl | omega | skip
theorem Mh(x:Int):gG x=true↔97≤x∧x≤122:=by unfold gG;simp
theorem Dj(x:Int):plain x=true↔(97≤x∧x≤122)∨(48≤x∧x≤57)∨x=45:=by
 unfold plain gG kZ;repeat' split
 all_goals simp_all
 all_goals omega
theorem Nu(x:Int):cK x=true↔(97≤x∧x≤122)∨(48≤x∧x≤57)∨x=45:=by
 unfold cK;repeat' split
 all_goals simp_all
 all_goals omega
theorem Do(x:Int):cK x=plain x:=by rw [Bool.eq_iff_iff,Nu,Dj]
def wN(s:ByteArray):Bool:=decide (1≤s.size∧s.size≤16) && Iq plain s
def fP(s:ByteArray):Bool:=wN s && decide (97≤gE s 0)
theorem Jn(s:ByteArray):(s=⟨#[]⟩)↔s.size=0:=by
 constructor
 ·rintro rfl;rfl
 intro h;cases s with
 | mk d=>
  have:d.size=0:=h;have:d=#[]:=by simpa using this
  rw [this]
theorem aGz(s:ByteArray)(p:Int→Bool)(f:FuncId)(σ:List (List D))(hs:s.size≤9223372036854775807)(hp:∀x τ,Ct prog f [.v (.int .u8 x)] τ (fun r τ'=>r= .bool (p x)∧τ'=τ)):Ct prog 253 [D.str s,.clo (.func f) [] []] σ (fun r σ'=>r= .bool (Iq p s)∧σ'=σ):=by
 refine zf (rs:=[.tmp 4]) func253 ntmps253 results253 ?_;simp only [aN];refine aW fun _ _ Z=>?_;simp;apply Z;apply aB;refine aW fun _ _ Z=>?_;simp;and_intros<;>(try omega);apply Z;apply aF;refine zk [0,1,4,7,8] ?_;refine bA (fun(k:Nat)=> [(8,.d (.v (.int .i64 (k:Int)))),(5,.d (.any))]) [4,5,8,9,10,11,12,13,14,15,16,17] (fun(k:Nat)=>k≤s.size∧∀j,j<k→p (gE s j)=true) (fun(k:Nat)=>s.size - k) (0) (by simp <;> rfl) ?_ ?_ ?_
 ·simp
 ·simp
 rintro k ⟨hk,hh⟩;simp only [List.cons_append,List.nil_append];refine aW fun _ _ Z=>?_;simp;apply Z;apply aB;refine zi ?_;refine⟨fun c1=>?_,fun c1=>?_⟩
 ·try simp at c1
  apply aD;apply aA;apply aB;apply aF;refine aW fun _ _ Z=>?_;simp;apply Z;refine aW fun _ _ Z=>?_;refine zs 4 fun _ Y=>?_;simp;and_intros<;>(try omega);apply Y;refine aE fun _ Y=>?_;simp;refine bX (hp (gE s k) _) ?_;apply Y;simp;apply Z;refine zi ?_;refine⟨fun c2=>?_,fun c2=>?_⟩
  ·try simp at c2
   refine zk [0,1,5,7,8] ?_;refine aW fun _ _ Z=>?_;simp;apply Z;apply aC;apply aP;apply aI;apply dF;apply aP;apply aI;simp [aK];exact aAt (k:=k) (by simpa [gE] using c2) (by omega)
  try simp at c2
  apply aD;apply aH;apply aA;refine zk [0,1,5,7,8] ?_;refine pP fun _ _ Z=>?_;simp;and_intros<;>(try omega);apply Z;refine zq (k+1) ?_ ?_ ?_
  ·exact⟨by omega,Bz hh (by simpa [gE] using c2)⟩
  ·try dsimp only
   omega
  simp
 try simp at c1
 apply aY;apply aX;apply aZ;apply aR;apply aA;refine aW fun _ _ Z=>?_;simp;apply Z;apply aC;simp [aK];exact Yt hh (by omega)
theorem aD8(s:ByteArray)(σ:List (List D))(hs:s.size≤9223372036854775807):Ct prog 227 [D.str s] σ (fun r σ'=>r= .bool (wN s)∧σ'=σ):=by
 refine zf (rs:=[.tmp 2]) func227 ntmps227 results227 ?_;simp only [aN];refine aW fun _ _ Z=>?_;simp;apply Z;refine kX ⟨[],[],[],[],[]⟩ fun all hall _ Z=>?_;have ga2:aO all 2=some 5:=hall 2;have ga7:aO all 7=some 10:=hall 7;refine zs 3 fun _ Y=>?_;simp[ga2,ga7];apply Y;refine aS 5 (by simp <;> rfl) ?_;refine⟨fun g1=>?_,fun g1=>?_⟩
 ·try simp at g1
  refine zs 5 fun _ Y=>?_;simp[ga2,ga7];and_intros<;>(try omega);apply Y;refine aS 10 (by simp <;> rfl) ?_;refine⟨fun g2=>?_,fun g2=>?_⟩
  ·try simp at g2
   refine zs 1 fun _ Y=>?_;simp[ga2,ga7];apply Y;refine zg ga7 fun _ Y=>?_;simp[ga2,ga7];refine bX (aGz s plain 254 _ hs (fun x τ=>Zz x τ)) ?_;apply Y;simp[ga2,ga7];apply Z;apply aC;simp [aK,wN];rw [Jn] at g1
   intros;omega
  try simp at g2
  simp[ga2,ga7];apply Z;apply aC;simp [aK,wN]
  intros;omega
 try simp at g1
 refine zs 5 fun _ Y=>?_;simp[ga2,ga7];apply Y;simp[ga2,ga7];apply Z;apply aC;simp [aK,wN];rw [Jn] at g1
 intros;omega
theorem Bl {s:ByteArray} (h:wN s=true):0<s.size∧s.size≤16:=by
 unfold wN at h;simp at h;omega
theorem Oi {s:ByteArray} (h:wN s=true):gG (gE s 0)=decide (97≤gE s 0):=by
 have hp:=(Bl h).1;unfold wN at h;rw [Bool.and_eq_true] at h;have:=aIt h.2 0 hp;rw [Dj] at this;rw [Bool.eq_iff_iff,Mh,decide_eq_true_eq];omega
theorem pV(s:ByteArray)(σ:List (List D))(hs:s.size≤9223372036854775807):Ct prog 193 [D.str s] σ (fun r σ'=>r= .bool (fP s)∧σ'=σ):=by
 refine zf (rs:=[.tmp 2]) func193 ntmps193 results193 ?_;simp only [aN];refine aW fun _ _ Z=>?_;simp;apply Z;refine kX ⟨[],[],[],[],[]⟩ fun all hall _ Z=>?_;have ga2:aO all 2=some 5:=hall 2;refine zs 1 fun _ Y=>?_;simp[ga2];apply Y;refine aE fun _ Y=>?_;simp[ga2];refine bX (aD8 s _ hs) ?_;apply Y;refine zs 1 fun _ Y=>?_;simp[ga2];apply Y;refine aS 5 (by simp <;> rfl) ?_;refine⟨fun g1=>?_,fun g1=>?_⟩
 ·try simp at g1
  have hpos:=Bl g1;refine zs 2 fun _ Y=>?_;simp[ga2];and_intros<;>(try omega);apply Y;refine zg ga2 fun _ Y=>?_;simp[ga2];refine bX (Cv (gE s 0) _) ?_;apply Y;simp[ga2];apply Z;apply aC;simp [aK,fP,g1,Oi g1]
 try simp at g1
 simp[ga2];apply Z;apply aC;simp [aK,fP,g1]
theorem aGv(s:ByteArray)(σ:List (List D))(hs:s.size≤9223372036854775807):Ct prog 162 [D.str s] σ (fun r σ'=>r= .bool (wN s)∧σ'=σ):=by
 refine zf (rs:=[.tmp 2]) func162 ntmps162 results162 ?_;simp only [aN];refine aW fun _ _ Z=>?_;simp;apply Z;apply aB;refine aW fun _ _ Z=>?_;simp;apply Z;apply aF;refine zk [0,2,3] ?_;refine bA (fun(k:Nat)=> [(3,.d (.v (.int .i64 (k:Int))))]) [2,3,4,5,6,7,8,9,10,11,12,13,14] (fun(k:Nat)=>k≤s.size∧∀j,j<k→plain (gE s j)=true) (fun(k:Nat)=>s.size - k) (0) (by simp <;> rfl) ?_ ?_ ?_
 ·simp
 ·simp
 rintro k ⟨hk,hh⟩;simp only [List.cons_append,List.nil_append];apply aB;refine aW fun _ _ Z=>?_;simp;and_intros<;>(try omega);apply Z;refine zi ?_;refine⟨fun c1=>?_,fun c1=>?_⟩
 ·try simp at c1
  apply aD;apply aA;apply aB;apply aF;refine aW fun _ _ Z=>?_;refine zs 3 fun _ Y=>?_;simp;and_intros<;>(try omega);apply Y;refine aE fun _ Y=>?_;simp;refine bX (Sk (gE s k) _) ?_;apply Y;simp;apply Z;refine zi ?_;refine⟨fun c2=>?_,fun c2=>?_⟩
  ·try simp at c2
   refine aW fun _ _ Z=>?_;simp;apply Z;apply aC;apply aP;apply aI;apply dF;apply aP;apply aI;simp [aK,wN];intro _ _;exact aAt (k:=k) (by rw [← Do];simpa [gE] using c2) (by omega)
  try simp at c2
  apply aD;apply aH;apply aA;refine pP fun _ _ Z=>?_;simp;and_intros<;>(try omega);apply Z;refine zq (k+1) ?_ ?_ ?_
  ·exact⟨by omega,Bz hh (by rw [← Do];simpa [gE] using c2)⟩
  ·try dsimp only
   omega
  simp
 try simp at c1
 apply aY;apply aX;apply aZ;apply aR;apply aA;refine kX ⟨[],[],[],[],[]⟩ fun all hall _ Z=>?_;have ga3:aO all 3=some 18:=hall 3;refine zs 4 fun _ Y=>?_;simp[ga3];and_intros<;>(try omega);apply Y;refine aS 18 (by simp <;> rfl) ?_;refine⟨fun g3=>?_,fun g3=>?_⟩
 ·try simp at g3
  simp[ga3];and_intros<;>(try omega);apply Z;apply aC;simp [aK,wN];have:=Yt (p:=plain) (s:=s) hh (by omega);simp [this];rw [Bool.eq_iff_iff];simp;omega
 try simp at g3
 simp[ga3];apply Z;apply aC;simp [aK,wN]
 intros;omega
theorem Kz(s:ByteArray)(σ:List (List D))(hs:s.size≤9223372036854775807):Ct prog 71 [D.str s] σ (fun r σ'=>r= .bool (fP s)∧σ'=σ):=by
 refine zf (rs:=[.tmp 2]) func71 ntmps71 results71 ?_;simp only [aN];refine aW fun _ _ Z=>?_;simp;apply Z;refine kX ⟨[],[],[],[],[]⟩ fun all hall _ Z=>?_;have ga2:aO all 2=some 5:=hall 2;refine zs 1 fun _ Y=>?_;simp[ga2];apply Y;refine aE fun _ Y=>?_;simp[ga2];refine bX (aGv s _ hs) ?_;apply Y;refine zs 1 fun _ Y=>?_;simp[ga2];apply Y;refine aS 5 (by simp <;> rfl) ?_;refine⟨fun g1=>?_,fun g1=>?_⟩
 ·try simp at g1
  have hpos:=Bl g1;simp[ga2];and_intros<;>(try omega);apply Z;apply aC;simp [aK,fP,g1,gE];rfl
 try simp at g1
 simp[ga2];apply Z;apply aC;simp [aK,fP,g1]
def Np(n:Nat)(s:ByteArray):ByteArray:=if n<s.size then s.extract 0 n else s
theorem Jp(n:Nat)(s:ByteArray):(Np n s).size≤n:=by
 unfold Np;split
 ·simp;omega
 omega
theorem aBq(s:ByteArray)(n:Nat)(σ:List (List D))(hn:n≤1000000):Ct prog 20 [D.str s,D.int n] σ (fun r σ'=>r= .v (.string (Np n s))∧σ'=σ):=by
 refine zf (rs:=[.tmp 4]) func20 ntmps20 results20 ?_;simp only [aN];refine aW fun _ _ Z=>?_;simp;apply Z;apply aB;refine aW fun _ _ Z=>?_;simp;and_intros<;>(try omega);apply Z;refine zi ?_;refine⟨fun c1=>?_,fun c1=>?_⟩
 ·try simp at c1
  refine aW fun _ _ Z=>?_;simp;and_intros<;>(try omega);apply Z;apply aC;apply aI;simp [aK,Np,c1]
 try simp at c1
 apply aD;apply aA;refine aW fun _ _ Z=>?_;simp;apply Z;apply aC;simp [aK,Np];intro h;omega
end Go.Proofs.YtbgfljpnhhdkoaaGreat
