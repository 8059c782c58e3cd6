import Derived.Test.YtbgfljpnhhdkoaaGreatVmTab
import Derived.Test.YtbgfljpnhhdkoaaGreatVmZ
open Go.Proofs.Tryz
namespace Go.Proofs.YtbgfljpnhhdkoaaGreat
open Go Go.Vm
set_option maxRecDepth 20000
set_option linter.all false
set_option maxHeartbeats 8000000
def gG(s:ByteArray)(k:Nat):Int:=((s.data[k]?.getD 0).toNat:Int)
def He(p:Int→Bool)(s:ByteArray):Bool:=(List.range s.size).all fun k=>p (gG s k)
theorem aCg {p:Int→Bool} {s:ByteArray} {k:Nat} (h:∀j,j<k→p (gG s j)=true)(hk:s.size≤k):He p s=true:=by
 unfold He;rw [List.all_eq_true];intro j hj;exact h j (by have:=List.mem_range.1 hj;omega)
theorem aBi {p:Int→Bool} {s:ByteArray} {k:Nat} (h:p (gG s k)=false)(hk:k<s.size):He p s=false:=by
 rw [← Bool.not_eq_true];intro hh;unfold He at hh;rw [List.all_eq_true] at hh;have:=hh k (List.mem_range.2 hk);rw [h] at this;cases this
theorem aHp {p:Int→Bool} {s:ByteArray} (h:He p s=true)(k:Nat)(hk:k<s.size):p (gG s k)=true:=by
 unfold He at h;rw [List.all_eq_true] at h;exact h k (List.mem_range.2 hk)
theorem As {p:Int→Bool} {s:ByteArray} {k:Nat} (h:∀j,j<k→p (gG s j)=true)(h2:p (gG s k)=true):∀j,j<k+1→p (gG s j)=true:=fun j hj=>by
 rcases Nat.lt_succ_iff_lt_or_eq.1 hj with h1 | rfl
 ·exact h j h1
 exact h2
def Bs(x0:Int)(x1:Int)(x2:Int):Int:=max x1 (min x0 x2)
theorem aDh(x0:Int)(x1:Int)(x2:Int)(σ:List (List D))  :Ct prog 131 [.v (.int .i64 x0),.v (.int .i64 x1),.v (.int .i64 x2)] σ (fun r σ'=>r= .v (.int .i64 (Bs x0 x1 x2))∧σ'=σ):=by
 refine zf (rs:=[.tmp 6]) func131 ntmps131 results131 ?_;simp only [aO];refine aV fun all K Z=>?_;simp;apply Z;clear Z K all;refine aV fun all K Z=>?_;simp;and_intros<;>(try omega);apply Z;clear Z K all;apply aB;first | (simp [aJ,Bs];done) | (simp [aJ,Bs];done) | (simp [aJ];unfold Bs;(repeat' split) <;> first | (exfalso;omega) | (simp_all;done)) | (simp [aJ,Bs, *];done) | (simp_all [aJ,Bs];done) | (simp_all [aJ,Bs];omega) | (simp [aJ,Bs] <;> split <;> omega)
def Gx(x0:Int):Int:=max (-2147483648) (min x0 2147483647)
theorem aG0(x0:Int)(σ:List (List D))  :Ct prog 238 [.v (.int .i64 x0)] σ (fun r σ'=>r= .v (.int .i64 (Gx x0))∧σ'=σ):=by
 refine zf (rs:=[.tmp 2]) func238 ntmps238 results238 ?_;simp only [aO];refine aV fun all K Z=>?_;simp;apply Z;clear Z K all;refine aV fun all K Z=>?_;simp;and_intros<;>(try omega);apply Z;clear Z K all;apply aB;first | (simp [aJ,Gx];done) | (simp [aJ,Gx];done) | (simp [aJ];unfold Gx;(repeat' split) <;> first | (exfalso;omega) | (simp_all;done)) | (simp [aJ,Gx, *];done) | (simp_all [aJ,Gx];done) | (simp_all [aJ,Gx];omega) | (simp [aJ,Gx] <;> split <;> omega)
def lL(x0:Int):Int:=if x0 > 2147483647 then 2147483647
 else if x0<(-2147483648)then(-2147483648)
  else x0
theorem aEv(x0:Int)(σ:List (List D))  :Ct prog 74 [.v (.int .i64 x0)] σ (fun r σ'=>r= .v (.int .i64 (lL x0))∧σ'=σ):=by
 refine zf (rs:=[.tmp 2]) func74 ntmps74 results74 ?_;simp only [aO];refine aV fun all K Z=>?_;simp;apply Z;clear Z K all;apply aC;refine aV fun all K Z=>?_;simp;apply Z;clear Z K all;refine zi ?_;refine⟨fun c1=>?_,fun c1=>?_⟩
 ·try simp at c1
  all_goals try (exfalso;omega)
  all_goals
   refine aV fun all K Z=>?_;simp;apply Z;clear Z K all;apply aB;apply aI;first | (simp [aJ,lL,c1];done) | (simp [aJ,lL];done) | (simp [aJ];unfold lL;(repeat' split) <;> first | (exfalso;omega) | (simp_all;done)) | (simp [aJ,lL, *];done) | (simp_all [aJ,lL];done) | (simp_all [aJ,lL];omega) | (simp [aJ,lL] <;> split <;> omega)
 try simp at c1
 all_goals try (exfalso;omega)
 all_goals
  apply aE;apply aA;apply aC;refine aV fun all K Z=>?_;simp;apply Z;clear Z K all;refine zi ?_;refine⟨fun c2=>?_,fun c2=>?_⟩
  ·try simp at c2
   all_goals try (exfalso;omega)
   all_goals
    refine aV fun all K Z=>?_;simp;apply Z;clear Z K all;apply aB;apply aI;first | (simp [aJ,lL,c1,c2];done) | (simp [aJ,lL];done) | (simp [aJ];unfold lL;(repeat' split) <;> first | (exfalso;omega) | (simp_all;done)) | (simp [aJ,lL, *];done) | (simp_all [aJ,lL];done) | (simp_all [aJ,lL];omega) | (simp [aJ,lL] <;> split <;> omega)
  try simp at c2
  all_goals try (exfalso;omega)
  all_goals
   apply aE;apply aA;refine aV fun all K Z=>?_;simp;apply Z;clear Z K all;apply aB;first | (simp [aJ,lL,c1,c2];done) | (simp [aJ,lL];done) | (simp [aJ];unfold lL;(repeat' split) <;> first | (exfalso;omega) | (simp_all;done)) | (simp [aJ,lL, *];done) | (simp_all [aJ,lL];done) | (simp_all [aJ,lL];omega) | (simp [aJ,lL] <;> split <;> omega)
def gH(x0:Int):Bool:=if x0≥97 then decide (x0≤122)
 else false
theorem Dd(x0:Int)(σ:List (List D))  :Ct prog 228 [.v (.int .u8 x0)] σ (fun r σ'=>r= .v (.bool (gH x0))∧σ'=σ):=by
 refine zf (rs:=[.tmp 2]) func228 ntmps228 results228 ?_;simp only [aO];refine aV fun all K Z=>?_;simp;apply Z;clear Z K all;refine kF ⟨[],[],[],[],[]⟩ fun all hall K Z=>?_;have ga2:aN all 2=some 5:=hall 2;clear hall;refine zs 3 fun K' Y=>?_;simp[ga2];apply Y;clear Y K';refine aR 5 (by simp <;> rfl) ?_;refine⟨fun g1=>?_,fun g1=>?_⟩
 ·try simp at g1
  all_goals try (exfalso;omega)
  all_goals
   simp[ga2];apply Z;clear Z K ga2 all;apply aB;first | (simp [aJ,gH,g1];done) | (simp [aJ,gH];done) | (simp [aJ];unfold gH;(repeat' split) <;> first | (exfalso;omega) | (simp_all;done)) | (simp [aJ,gH, *];done) | (simp_all [aJ,gH];done) | (simp_all [aJ,gH];omega) | (simp [aJ,gH] <;> split <;> omega)
 try simp at g1
 all_goals try (exfalso;omega)
 all_goals
  simp[ga2];apply Z;clear Z K ga2 all;apply aB;first | (simp [aJ,gH,g1];done) | (simp [aJ,gH];done) | (simp [aJ];unfold gH;(repeat' split) <;> first | (exfalso;omega) | (simp_all;done)) | (simp [aJ,gH, *];done) | (simp_all [aJ,gH];done) | (simp_all [aJ,gH];omega) | (simp [aJ,gH] <;> split <;> omega)
def lA(x0:Int):Bool:=if x0≥48 then decide (x0≤57)
 else false
theorem aAs(x0:Int)(σ:List (List D))  :Ct prog 267 [.v (.int .u8 x0)] σ (fun r σ'=>r= .v (.bool (lA x0))∧σ'=σ):=by
 refine zf (rs:=[.tmp 2]) func267 ntmps267 results267 ?_;simp only [aO];refine aV fun all K Z=>?_;simp;apply Z;clear Z K all;refine kF ⟨[],[],[],[],[]⟩ fun all hall K Z=>?_;have ga2:aN all 2=some 5:=hall 2;clear hall;refine zs 3 fun K' Y=>?_;simp[ga2];apply Y;clear Y K';refine aR 5 (by simp <;> rfl) ?_;refine⟨fun g1=>?_,fun g1=>?_⟩
 ·try simp at g1
  all_goals try (exfalso;omega)
  all_goals
   simp[ga2];apply Z;clear Z K ga2 all;apply aB;first | (simp [aJ,lA,g1];done) | (simp [aJ,lA];done) | (simp [aJ];unfold lA;(repeat' split) <;> first | (exfalso;omega) | (simp_all;done)) | (simp [aJ,lA, *];done) | (simp_all [aJ,lA];done) | (simp_all [aJ,lA];omega) | (simp [aJ,lA] <;> split <;> omega)
 try simp at g1
 all_goals try (exfalso;omega)
 all_goals
  simp[ga2];apply Z;clear Z K ga2 all;apply aB;first | (simp [aJ,lA,g1];done) | (simp [aJ,lA];done) | (simp [aJ];unfold lA;(repeat' split) <;> first | (exfalso;omega) | (simp_all;done)) | (simp [aJ,lA, *];done) | (simp_all [aJ,lA];done) | (simp_all [aJ,lA];omega) | (simp [aJ,lA] <;> split <;> omega)
def plain(x0:Int):Bool:=if(gH x0)=true then true
 else if(lA x0)=true then true
  else decide (x0=45)
theorem Wu(x0:Int)(σ:List (List D))  :Ct prog 254 [.v (.int .u8 x0)] σ (fun r σ'=>r= .v (.bool (plain x0))∧σ'=σ):=by
 refine zf (rs:=[.tmp 2]) func254 ntmps254 results254 ?_;simp only [aO];refine aV fun all K Z=>?_;simp;apply Z;clear Z K all;refine kF ⟨[],[],[],[],[]⟩ fun all hall K Z=>?_;have ga2:aN all 2=some 5:=hall 2;have ga6:aN all 6=some 9:=hall 6;clear hall;refine zs 1 fun K' Y=>?_;simp[ga2,ga6];apply Y;clear Y K';refine aD fun K' Y=>?_;simp[ga2,ga6];refine cD (Dd x0 _) ?_;apply Y;clear Y K';refine zs 1 fun K' Y=>?_;simp[ga2,ga6];apply Y;clear Y K';refine aR 5 (by simp <;> rfl) ?_;refine⟨fun g1=>?_,fun g1=>?_⟩
 ·try simp at g1
  all_goals try (exfalso;omega)
  all_goals
   refine zs 4 fun K' Y=>?_;simp[ga2,ga6];apply Y;clear Y K';simp[ga2,ga6];apply Z;clear Z K ga2 ga6 all;apply aB;first | (simp [aJ,plain,g1];done) | (simp [aJ,plain];done) | (simp [aJ];unfold plain;(repeat' split) <;> first | (exfalso;omega) | (simp_all;done)) | (simp [aJ,plain, *];done) | (simp_all [aJ,plain];done) | (simp_all [aJ,plain];omega) | (simp [aJ,plain] <;> split <;> omega)
 try simp at g1
 all_goals try (exfalso;omega)
 all_goals
  refine zs 1 fun K' Y=>?_;simp[ga2,ga6];apply Y;clear Y K';refine zg ga2 fun K' Y=>?_;simp[ga2,ga6];refine cD (aAs x0 _) ?_;apply Y;clear Y K';refine zs 2 fun K' Y=>?_;simp[ga2,ga6];apply Y;clear Y K';refine aR 9 (by simp <;> rfl) ?_;refine⟨fun g2=>?_,fun g2=>?_⟩
  ·try simp at g2
   all_goals try (exfalso;omega)
   all_goals
    simp[ga2,ga6];apply Z;clear Z K ga2 ga6 all;apply aB;first | (simp [aJ,plain,g1,g2];done) | (simp [aJ,plain];done) | (simp [aJ];unfold plain;(repeat' split) <;> first | (exfalso;omega) | (simp_all;done)) | (simp [aJ,plain, *];done) | (simp_all [aJ,plain];done) | (simp_all [aJ,plain];omega) | (simp [aJ,plain] <;> split <;> omega)
  try simp at g2
  all_goals try (exfalso;omega)
  all_goals
   simp[ga2,ga6];apply Z;clear Z K ga2 ga6 all;apply aB;first | (simp [aJ,plain,g1,g2];done) | (simp [aJ,plain];done) | (simp [aJ];unfold plain;(repeat' split) <;> first | (exfalso;omega) | (simp_all;done)) | (simp [aJ,plain, *];done) | (simp_all [aJ,plain];done) | (simp_all [aJ,plain];omega) | (simp [aJ,plain] <;> split <;> omega)
def cM (x0 : Int) : Bool := if x0 ≥ 97 then if x0 ≤ 122 then true
  else if x0≥48 then if x0≤57 then true
    else decide (x0=45)
   else decide (x0=45)
 else if x0≥48 then if x0≤57 then true
   else decide (x0=45)
  else decide (x0=45)
theorem Uq (x0 : Int) (σ : List (List D))  : Ct prog 216 [.v (.int .u8 x0)] σ (fun r σ' => r = .v (.bool (cM x0)) ∧ σ' = σ) := by
 refine zf (rs:=[.tmp 2]) func216 ntmps216 results216 ?_;simp only [aO];refine aV fun all K Z=>?_;simp;apply Z;clear Z K all;refine kF ⟨[],[],[],[],[]⟩ fun all hall K Z=>?_;have ga2:aN all 2=some 5:=hall 2;have ga6:aN all 6=some 9:=hall 6;have ga9:aN all 9=some 12:=hall 9;have ga14:aN all 14=some 17:=hall 14;clear hall;refine zs 3 fun K' Y=>?_;simp[ga2,ga6,ga9,ga14];apply Y;clear Y K';refine aR 5 (by simp <;> rfl) ?_;refine⟨fun g1=>?_,fun g1=>?_⟩
 ·try simp at g1
  all_goals try (exfalso;omega)
  all_goals
   refine zs 4 fun K' Y=>?_;simp[ga2,ga6,ga9,ga14];apply Y;clear Y K';refine aR 9 (by simp <;> rfl) ?_;refine⟨fun g2=>?_,fun g2=>?_⟩
   ·try simp at g2
    all_goals try (exfalso;omega)
    all_goals
     refine zs 8 fun K' Y=>?_;simp[ga2,ga6,ga9,ga14];apply Y;clear Y K';simp[ga2,ga6,ga9,ga14];apply Z;clear Z K ga2 ga6 ga9 ga14 all;apply aB;first | (simp [aJ,cM,g1,g2];done) | (simp [aJ,cM];done) | (simp [aJ];unfold cM;(repeat' split) <;> first | (exfalso;omega) | (simp_all;done)) | (simp [aJ,cM, *];done) | (simp_all [aJ,cM];done) | (simp_all [aJ,cM];omega) | (simp [aJ,cM] <;> split <;> omega)
   try simp at g2
   all_goals try (exfalso;omega)
   all_goals
    refine zs 3 fun K' Y=>?_;simp[ga2,ga6,ga9,ga14];apply Y;clear Y K';refine aR 12 (by simp <;> rfl) ?_;refine⟨fun g3=>?_,fun g3=>?_⟩
    ·try simp at g3
     all_goals try (exfalso;omega)
     all_goals
      refine zs 5 fun K' Y=>?_;simp[ga2,ga6,ga9,ga14];apply Y;clear Y K';refine aR 17 (by simp <;> rfl) ?_;refine⟨fun g4=>?_,fun g4=>?_⟩
      ·try simp at g4
       all_goals try (exfalso;omega)
       all_goals
        simp[ga2,ga6,ga9,ga14];apply Z;clear Z K ga2 ga6 ga9 ga14 all;apply aB;first | (simp [aJ,cM,g1,g2,g3,g4];done) | (simp [aJ,cM];done) | (simp [aJ];unfold cM;(repeat' split) <;> first | (exfalso;omega) | (simp_all;done)) | (simp [aJ,cM, *];done) | (simp_all [aJ,cM];done) | (simp_all [aJ,cM];omega) | (simp [aJ,cM] <;> split <;> omega)
      try simp at g4
      all_goals try (exfalso;omega)
      all_goals
       simp[ga2,ga6,ga9,ga14];apply Z;clear Z K ga2 ga6 ga9 ga14 all;apply aB;first | (simp [aJ,cM,g1,g2,g3,g4];done) | (simp [aJ,cM];done) | (simp [aJ];unfold cM;(repeat' split) <;> first | (exfalso;omega) | (simp_all;done)) | (simp [aJ,cM, *];done) | (simp_all [aJ,cM];done) | (simp_all [aJ,cM];omega) | (simp [aJ,cM] <;> split <;> omega)
    try simp at g3
    all_goals try (exfalso;omega)
    all_goals
     refine zs 5 fun K' Y=>?_;simp[ga2,ga6,ga9,ga14];apply Y;clear Y K';simp[ga2,ga6,ga9,ga14];apply Z;clear Z K ga2 ga6 ga9 ga14 all;apply aB;first | (simp [aJ,cM,g1,g2,g3];done) | (simp [aJ,cM];done) | (simp [aJ];unfold cM;(repeat' split) <;> first | (exfalso;omega) | (simp_all;done)) | (simp [aJ,cM, *];done) | (simp_all [aJ,cM];done) | (simp_all [aJ,cM];omega) | (simp [aJ,cM] <;> split <;> omega)
 try simp at g1
 all_goals try (exfalso;omega)
 all_goals
  refine zs 4 fun K' Y=>?_;simp[ga2,ga6,ga9,ga14];apply Y;clear Y K';refine zs 3 fun K' Y=>?_;simp[ga2,ga6,ga9,ga14];apply Y;clear Y K';refine aR 12 (by simp <;> rfl) ?_;refine⟨fun g5=>?_,fun g5=>?_⟩
  ·try simp at g5
   all_goals try (exfalso;omega)
   all_goals
    refine zs 5 fun K' Y=>?_;simp[ga2,ga6,ga9,ga14];apply Y;clear Y K';refine aR 17 (by simp <;> rfl) ?_;refine⟨fun g6=>?_,fun g6=>?_⟩
    ·try simp at g6
     all_goals try (exfalso;omega)
     all_goals
      simp[ga2,ga6,ga9,ga14];apply Z;clear Z K ga2 ga6 ga9 ga14 all;apply aB;first | (simp [aJ,cM,g1,g5,g6];done) | (simp [aJ,cM];done) | (simp [aJ];unfold cM;(repeat' split) <;> first | (exfalso;omega) | (simp_all;done)) | (simp [aJ,cM, *];done) | (simp_all [aJ,cM];done) | (simp_all [aJ,cM];omega) | (simp [aJ,cM] <;> split <;> omega)
    try simp at g6
    all_goals try (exfalso;omega)
    all_goals
     simp[ga2,ga6,ga9,ga14];apply Z;clear Z K ga2 ga6 ga9 ga14 all;apply aB;first | (simp [aJ,cM,g1,g5,g6];done) | (simp [aJ,cM];done) | (simp [aJ];unfold cM;(repeat' split) <;> first | (exfalso;omega) | (simp_all;done)) | (simp [aJ,cM, *];done) | (simp_all [aJ,cM];done) | (simp_all [aJ,cM];omega) | (simp [aJ,cM] <;> split <;> omega)
  try simp at g5
  all_goals try (exfalso;omega)
  all_goals
   refine zs 5 fun K' Y=>?_;simp[ga2,ga6,ga9,ga14];apply Y;clear Y K';simp[ga2,ga6,ga9,ga14];apply Z;clear Z K ga2 ga6 ga9 ga14 all;apply aB;first | (simp [aJ,cM,g1,g5];done) | (simp [aJ,cM];done) | (simp [aJ];unfold cM;(repeat' split) <;> first | (exfalso;omega) | (simp_all;done)) | (simp [aJ,cM, *];done) | (simp_all [aJ,cM];done) | (simp_all [aJ,cM];omega) | (simp [aJ,cM] <;> split <;> omega)
theorem aHy(x:Int):lL x=Gx x:=by
 unfold lL Gx
 repeat' split
 all_goals first | rfl | omega | skip
theorem Lj(x:Int):gH x=true↔97≤x∧x≤122:=by unfold gH;simp
theorem Cn(x:Int):plain x=true↔(97≤x∧x≤122)∨(48≤x∧x≤57)∨x=45:=by
 unfold plain gH lA;repeat' split
 all_goals simp_all
 all_goals omega
theorem Ll(x:Int):cM x=true↔(97≤x∧x≤122)∨(48≤x∧x≤57)∨x=45:=by
 unfold cM;repeat' split
 all_goals simp_all
 all_goals omega
theorem Ca(x:Int):cM x=plain x:=by rw [Bool.eq_iff_iff,Ll,Cn]
def wM(s:ByteArray):Bool:=decide (1≤s.size∧s.size≤16) && He plain s
def fD(s:ByteArray):Bool:=wM s && decide (97≤gG s 0)
theorem Ha(s:ByteArray):(s=⟨#[]⟩)↔s.size=0:=by
 constructor
 ·rintro rfl;rfl
 intro h;cases s with
 | mk d=>
  have:d.size=0:=h;have:d=#[]:=by simpa using this
  rw [this]
theorem aFx(s:ByteArray)(p:Int→Bool)(f:FuncId)(σ:List (List D))(hs:s.size≤9223372036854775807)(hp:∀x τ,Ct prog f [.v (.int .u8 x)] τ (fun r τ'=>r= .bool (p x)∧τ'=τ)):Ct prog 253 [D.str s,.clo (.func f) [] []] σ (fun r σ'=>r= .bool (He p s)∧σ'=σ):=by
 refine zf (rs:=[.tmp 4]) func253 ntmps253 results253 ?_;simp only [aO];refine aV fun _ _ Z=>?_;simp;apply Z;apply aC;refine aV fun _ _ Z=>?_;simp;and_intros<;>(try omega);apply Z;apply aH;refine zk [0,1,4,7,8] ?_;refine bE (fun(k:Nat)=> [(8,.d (.v (.int .i64 (k:Int)))),(5,.d (.any))]) [4,5,8,9,10,11,12,13,14,15,16,17] (fun(k:Nat)=>k≤s.size∧∀j,j<k→p (gG s j)=true) (fun(k:Nat)=>s.size - k) (0) (by simp <;> rfl) ?_ ?_ ?_
 ·simp
 ·simp
 rintro k ⟨hk,hh⟩;simp only [List.cons_append,List.nil_append];refine aV fun _ _ Z=>?_;simp;apply Z;apply aC;refine zi ?_;refine⟨fun c1=>?_,fun c1=>?_⟩
 ·try simp at c1
  apply aE;apply aA;apply aC;apply aH;refine aV fun _ _ Z=>?_;simp;apply Z;refine aV fun _ _ Z=>?_;refine zs 4 fun _ Y=>?_;simp;and_intros<;>(try omega);apply Y;refine aD fun _ Y=>?_;simp;refine cD (hp (gG s k) _) ?_;apply Y;simp;apply Z;refine zi ?_;refine⟨fun c2=>?_,fun c2=>?_⟩
  ·try simp at c2
   refine zk [0,1,5,7,8] ?_;refine aV fun _ _ Z=>?_;simp;apply Z;apply aB;apply aQ;apply aI;apply eH;apply aQ;apply aI;simp [aJ];exact aBi (k:=k) (by simpa [gG] using c2) (by omega)
  try simp at c2
  apply aE;apply aL;apply aA;refine zk [0,1,5,7,8] ?_;refine rH fun _ _ Z=>?_;simp;and_intros<;>(try omega);apply Z;refine zq (k+1) ?_ ?_ ?_
  ·exact⟨by omega,As hh (by simpa [gG] using c2)⟩
  ·try dsimp only
   omega
  simp
 try simp at c1
 apply bA;apply aZ;apply bB;apply aW;apply aA;refine aV fun _ _ Z=>?_;simp;apply Z;apply aB;simp [aJ];exact aCg hh (by omega)
theorem aEo(s:ByteArray)(σ:List (List D))(hs:s.size≤9223372036854775807):Ct prog 227 [D.str s] σ (fun r σ'=>r= .bool (wM s)∧σ'=σ):=by
 refine zf (rs:=[.tmp 2]) func227 ntmps227 results227 ?_;simp only [aO];refine aV fun _ _ Z=>?_;simp;apply Z;refine kF ⟨[],[],[],[],[]⟩ fun all hall _ Z=>?_;have ga2:aN all 2=some 5:=hall 2;have ga7:aN all 7=some 10:=hall 7;refine zs 3 fun _ Y=>?_;simp[ga2,ga7];apply Y;refine aR 5 (by simp <;> rfl) ?_;refine⟨fun g1=>?_,fun g1=>?_⟩
 ·try simp at g1
  refine zs 5 fun _ Y=>?_;simp[ga2,ga7];and_intros<;>(try omega);apply Y;refine aR 10 (by simp <;> rfl) ?_;refine⟨fun g2=>?_,fun g2=>?_⟩
  ·try simp at g2
   refine zs 1 fun _ Y=>?_;simp[ga2,ga7];apply Y;refine zg ga7 fun _ Y=>?_;simp[ga2,ga7];refine cD (aFx s plain 254 _ hs (fun x τ=>Wu x τ)) ?_;apply Y;simp[ga2,ga7];apply Z;apply aB;simp [aJ,wM];rw [Ha] at g1
   intros;omega
  try simp at g2
  simp[ga2,ga7];apply Z;apply aB;simp [aJ,wM]
  intros;omega
 try simp at g1
 refine zs 5 fun _ Y=>?_;simp[ga2,ga7];apply Y;simp[ga2,ga7];apply Z;apply aB;simp [aJ,wM];rw [Ha] at g1
 intros;omega
theorem Ax {s:ByteArray} (h:wM s=true):0<s.size∧s.size≤16:=by
 unfold wM at h;simp at h;omega
theorem Lv {s:ByteArray} (h:wM s=true):gH (gG s 0)=decide (97≤gG s 0):=by
 have hp:=(Ax h).1;unfold wM at h;rw [Bool.and_eq_true] at h;have:=aHp h.2 0 hp;rw [Cn] at this;rw [Bool.eq_iff_iff,Lj,decide_eq_true_eq];omega
theorem qH(s:ByteArray)(σ:List (List D))(hs:s.size≤9223372036854775807):Ct prog 193 [D.str s] σ (fun r σ'=>r= .bool (fD s)∧σ'=σ):=by
 refine zf (rs:=[.tmp 2]) func193 ntmps193 results193 ?_;simp only [aO];refine aV fun _ _ Z=>?_;simp;apply Z;refine kF ⟨[],[],[],[],[]⟩ fun all hall _ Z=>?_;have ga2:aN all 2=some 5:=hall 2;refine zs 1 fun _ Y=>?_;simp[ga2];apply Y;refine aD fun _ Y=>?_;simp[ga2];refine cD (aEo s _ hs) ?_;apply Y;refine zs 1 fun _ Y=>?_;simp[ga2];apply Y;refine aR 5 (by simp <;> rfl) ?_;refine⟨fun g1=>?_,fun g1=>?_⟩
 ·try simp at g1
  have hpos:=Ax g1;refine zs 2 fun _ Y=>?_;simp[ga2];and_intros<;>(try omega);apply Y;refine zg ga2 fun _ Y=>?_;simp[ga2];refine cD (Dd (gG s 0) _) ?_;apply Y;simp[ga2];apply Z;apply aB;simp [aJ,fD,g1,Lv g1]
 try simp at g1
 simp[ga2];apply Z;apply aB;simp [aJ,fD,g1]
theorem aD3(s:ByteArray)(σ:List (List D))(hs:s.size≤9223372036854775807):Ct prog 162 [D.str s] σ (fun r σ'=>r= .bool (wM s)∧σ'=σ):=by
 refine zf (rs:=[.tmp 2]) func162 ntmps162 results162 ?_;simp only [aO];refine aV fun _ _ Z=>?_;simp;apply Z;apply aC;refine aV fun _ _ Z=>?_;simp;apply Z;apply aH;refine zk [0,2,3] ?_;refine bE (fun(k:Nat)=> [(3,.d (.v (.int .i64 (k:Int))))]) [2,3,4,5,6,7,8,9,10,11,12,13,14] (fun(k:Nat)=>k≤s.size∧∀j,j<k→plain (gG s j)=true) (fun(k:Nat)=>s.size - k) (0) (by simp <;> rfl) ?_ ?_ ?_
 ·simp
 ·simp
 rintro k ⟨hk,hh⟩;simp only [List.cons_append,List.nil_append];apply aC;refine aV fun _ _ Z=>?_;simp;and_intros<;>(try omega);apply Z;refine zi ?_;refine⟨fun c1=>?_,fun c1=>?_⟩
 ·try simp at c1
  apply aE;apply aA;apply aC;apply aH;refine aV fun _ _ Z=>?_;refine zs 3 fun _ Y=>?_;simp;and_intros<;>(try omega);apply Y;refine aD fun _ Y=>?_;simp;refine cD (Uq (gG s k) _) ?_;apply Y;simp;apply Z;refine zi ?_;refine⟨fun c2=>?_,fun c2=>?_⟩
  ·try simp at c2
   refine aV fun _ _ Z=>?_;simp;apply Z;apply aB;apply aQ;apply aI;apply eH;apply aQ;apply aI;simp [aJ,wM];intro _ _;exact aBi (k:=k) (by rw [← Ca];simpa [gG] using c2) (by omega)
  try simp at c2
  apply aE;apply aL;apply aA;refine rH fun _ _ Z=>?_;simp;and_intros<;>(try omega);apply Z;refine zq (k+1) ?_ ?_ ?_
  ·exact⟨by omega,As hh (by rw [← Ca];simpa [gG] using c2)⟩
  ·try dsimp only
   omega
  simp
 try simp at c1
 apply bA;apply aZ;apply bB;apply aW;apply aA;refine kF ⟨[],[],[],[],[]⟩ fun all hall _ Z=>?_;have ga3:aN all 3=some 18:=hall 3;refine zs 4 fun _ Y=>?_;simp[ga3];and_intros<;>(try omega);apply Y;refine aR 18 (by simp <;> rfl) ?_;refine⟨fun g3=>?_,fun g3=>?_⟩
 ·try simp at g3
  simp[ga3];and_intros<;>(try omega);apply Z;apply aB;simp [aJ,wM];have:=aCg (p:=plain) (s:=s) hh (by omega);simp [this];rw [Bool.eq_iff_iff];simp;omega
 try simp at g3
 simp[ga3];apply Z;apply aB;simp [aJ,wM]
 intros;omega
theorem Jd(s:ByteArray)(σ:List (List D))(hs:s.size≤9223372036854775807):Ct prog 71 [D.str s] σ (fun r σ'=>r= .bool (fD s)∧σ'=σ):=by
 refine zf (rs:=[.tmp 2]) func71 ntmps71 results71 ?_;simp only [aO];refine aV fun _ _ Z=>?_;simp;apply Z;refine kF ⟨[],[],[],[],[]⟩ fun all hall _ Z=>?_;have ga2:aN all 2=some 5:=hall 2;refine zs 1 fun _ Y=>?_;simp[ga2];apply Y;refine aD fun _ Y=>?_;simp[ga2];refine cD (aD3 s _ hs) ?_;apply Y;refine zs 1 fun _ Y=>?_;simp[ga2];apply Y;refine aR 5 (by simp <;> rfl) ?_;refine⟨fun g1=>?_,fun g1=>?_⟩
 ·try simp at g1
  have hpos:=Ax g1;simp[ga2];and_intros<;>(try omega);apply Z;apply aB;simp [aJ,fD,g1,gG];rfl
 try simp at g1
 simp[ga2];apply Z;apply aB;simp [aJ,fD,g1]
def Fh(n:Nat)(s:ByteArray):ByteArray:=if n<s.size then s.extract 0 n else s
theorem sS(n:Nat)(s:ByteArray):(Fh n s).size≤n:=by
 unfold Fh;split
 ·simp;omega
 omega
theorem Fi(s:ByteArray)(n:Nat)(σ:List (List D))(hn:n≤1000000):Ct prog 20 [D.str s,D.int n] σ (fun r σ'=>r= .v (.string (Fh n s))∧σ'=σ):=by
 refine zf (rs:=[.tmp 4]) func20 ntmps20 results20 ?_;simp only [aO];refine aV fun _ _ Z=>?_;simp;apply Z;apply aC;refine aV fun _ _ Z=>?_;simp;and_intros<;>(try omega);apply Z;refine zi ?_;refine⟨fun c1=>?_,fun c1=>?_⟩
 ·try simp at c1
  refine aV fun _ _ Z=>?_;simp;and_intros<;>(try omega);apply Z;apply aB;apply aI;simp [aJ,Fh,c1]
 try simp at c1
 apply aE;apply aA;refine aV fun _ _ Z=>?_;simp;apply Z;apply aB;simp [aJ,Fh];intro h;omega
end Go.Proofs.YtbgfljpnhhdkoaaGreat
