import Derived.Test.YtbgfljpnhhdkoaaGreatVmTab
import Derived.Test.YtbgfljpnhhdkoaaGreatVmZ
open Go.Proofs.Tryz
namespace Go.Proofs.YtbgfljpnhhdkoaaGreat
open Go Go.Vm
set_option maxRecDepth 20000
set_option linter.all false
set_option maxHeartbeats 8000000
def gF(s:ByteArray)(k:Nat):Int:=((s.data[k]?.getD 0).toNat:Int)
def Jg(p:Int→Bool)(s:ByteArray):Bool:=(List.range s.size).all fun k=>p (gF s k)
theorem Ym {p:Int→Bool} {s:ByteArray} {k:Nat} (h:∀j,j<k→p (gF s j)=true)(hk:s.size≤k):Jg p s=true:=by
 unfold Jg;rw [List.all_eq_true];intro j hj;exact h j (by have:=List.mem_range.1 hj;omega)
theorem aBj {p:Int→Bool} {s:ByteArray} {k:Nat} (h:p (gF s k)=false)(hk:k<s.size):Jg p s=false:=by
 rw [← Bool.not_eq_true];intro hh;unfold Jg at hh;rw [List.all_eq_true] at hh;have:=hh k (List.mem_range.2 hk);rw [h] at this;cases this
theorem aJm {p:Int→Bool} {s:ByteArray} (h:Jg p s=true)(k:Nat)(hk:k<s.size):p (gF s k)=true:=by
 unfold Jg at h;rw [List.all_eq_true] at h;exact h k (List.mem_range.2 hk)
theorem Aj {p:Int→Bool} {s:ByteArray} {k:Nat} (h:∀j,j<k→p (gF s j)=true)(h2:p (gF s k)=true):∀j,j<k+1→p (gF s j)=true:=fun j hj=>by
 rcases Nat.lt_succ_iff_lt_or_eq.1 hj with h1 | rfl
 ·exact h j h1
 exact h2
def Bw(x0:Int)(x1:Int)(x2:Int):Int:=max x1 (min x0 x2)
theorem aEi(x0:Int)(x1:Int)(x2:Int)(σ:List (List D))  :Ct prog 131 [.v (.int .i64 x0),.v (.int .i64 x1),.v (.int .i64 x2)] σ (fun r σ'=>r= .v (.int .i64 (Bw x0 x1 x2))∧σ'=σ):=by
 refine zf (rs:=[.tmp 6]) func131 ntmps131 results131 ?_;simp only [aN];refine aY fun all K Z=>?_;simp;apply Z;clear Z K all;refine aY fun all K Z=>?_;simp;and_intros<;>(try omega);apply Z;clear Z K all;apply aB;first | (simp [aL,Bw];done) | (simp [aL,Bw];done) | (simp [aL];unfold Bw;(repeat' split) <;> first | (exfalso;omega) | (simp_all;done)) | (simp [aL,Bw, *];done) | (simp_all [aL,Bw];done) | (simp_all [aL,Bw];omega) | (simp [aL,Bw] <;> split <;> omega)
def Hc(x0:Int):Int:=max (-2147483648) (min x0 2147483647)
theorem aIw(x0:Int)(σ:List (List D))  :Ct prog 238 [.v (.int .i64 x0)] σ (fun r σ'=>r= .v (.int .i64 (Hc x0))∧σ'=σ):=by
 refine zf (rs:=[.tmp 2]) func238 ntmps238 results238 ?_;simp only [aN];refine aY fun all K Z=>?_;simp;apply Z;clear Z K all;refine aY fun all K Z=>?_;simp;and_intros<;>(try omega);apply Z;clear Z K all;apply aB;first | (simp [aL,Hc];done) | (simp [aL,Hc];done) | (simp [aL];unfold Hc;(repeat' split) <;> first | (exfalso;omega) | (simp_all;done)) | (simp [aL,Hc, *];done) | (simp_all [aL,Hc];done) | (simp_all [aL,Hc];omega) | (simp [aL,Hc] <;> split <;> omega)
def lV(x0:Int):Int:=if x0 > 2147483647 then 2147483647
 else if x0<(-2147483648)then(-2147483648)
  else x0
theorem aGm(x0:Int)(σ:List (List D))  :Ct prog 74 [.v (.int .i64 x0)] σ (fun r σ'=>r= .v (.int .i64 (lV x0))∧σ'=σ):=by
 refine zf (rs:=[.tmp 2]) func74 ntmps74 results74 ?_;simp only [aN];refine aY fun all K Z=>?_;simp;apply Z;clear Z K all;apply aC;refine aY fun all K Z=>?_;simp;apply Z;clear Z K all;refine zi ?_;refine⟨fun c1=>?_,fun c1=>?_⟩
 ·try simp at c1
  all_goals try (exfalso;omega)
  all_goals
   refine aY fun all K Z=>?_;simp;apply Z;clear Z K all;apply aB;apply aJ;first | (simp [aL,lV,c1];done) | (simp [aL,lV];done) | (simp [aL];unfold lV;(repeat' split) <;> first | (exfalso;omega) | (simp_all;done)) | (simp [aL,lV, *];done) | (simp_all [aL,lV];done) | (simp_all [aL,lV];omega) | (simp [aL,lV] <;> split <;> omega)
 try simp at c1
 all_goals try (exfalso;omega)
 all_goals
  apply aE;apply aA;apply aC;refine aY fun all K Z=>?_;simp;apply Z;clear Z K all;refine zi ?_;refine⟨fun c2=>?_,fun c2=>?_⟩
  ·try simp at c2
   all_goals try (exfalso;omega)
   all_goals
    refine aY fun all K Z=>?_;simp;apply Z;clear Z K all;apply aB;apply aJ;first | (simp [aL,lV,c1,c2];done) | (simp [aL,lV];done) | (simp [aL];unfold lV;(repeat' split) <;> first | (exfalso;omega) | (simp_all;done)) | (simp [aL,lV, *];done) | (simp_all [aL,lV];done) | (simp_all [aL,lV];omega) | (simp [aL,lV] <;> split <;> omega)
  try simp at c2
  all_goals try (exfalso;omega)
  all_goals
   apply aE;apply aA;refine aY fun all K Z=>?_;simp;apply Z;clear Z K all;apply aB;first | (simp [aL,lV,c1,c2];done) | (simp [aL,lV];done) | (simp [aL];unfold lV;(repeat' split) <;> first | (exfalso;omega) | (simp_all;done)) | (simp [aL,lV, *];done) | (simp_all [aL,lV];done) | (simp_all [aL,lV];omega) | (simp [aL,lV] <;> split <;> omega)
def gG(x0:Int):Bool:=if x0≥97 then decide (x0≤122)
 else false
theorem Dk(x0:Int)(σ:List (List D))  :Ct prog 228 [.v (.int .u8 x0)] σ (fun r σ'=>r= .v (.bool (gG x0))∧σ'=σ):=by
 refine zf (rs:=[.tmp 2]) func228 ntmps228 results228 ?_;simp only [aN];refine aY fun all K Z=>?_;simp;apply Z;clear Z K all;refine mY ⟨[],[],[],[],[]⟩ fun all hall K Z=>?_;have ga2:aR all 2=some 5:=hall 2;clear hall;refine zs 3 fun K' Y=>?_;simp[ga2];apply Y;clear Y K';refine aU 5 (by simp <;> rfl) ?_;refine⟨fun g1=>?_,fun g1=>?_⟩
 ·try simp at g1
  all_goals try (exfalso;omega)
  all_goals
   simp[ga2];apply Z;clear Z K ga2 all;apply aB;first | (simp [aL,gG,g1];done) | (simp [aL,gG];done) | (simp [aL];unfold gG;(repeat' split) <;> first | (exfalso;omega) | (simp_all;done)) | (simp [aL,gG, *];done) | (simp_all [aL,gG];done) | (simp_all [aL,gG];omega) | (simp [aL,gG] <;> split <;> omega)
 try simp at g1
 all_goals try (exfalso;omega)
 all_goals
  simp[ga2];apply Z;clear Z K ga2 all;apply aB;first | (simp [aL,gG,g1];done) | (simp [aL,gG];done) | (simp [aL];unfold gG;(repeat' split) <;> first | (exfalso;omega) | (simp_all;done)) | (simp [aL,gG, *];done) | (simp_all [aL,gG];done) | (simp_all [aL,gG];omega) | (simp [aL,gG] <;> split <;> omega)
def lC(x0:Int):Bool:=if x0≥48 then decide (x0≤57)
 else false
theorem Zp(x0:Int)(σ:List (List D))  :Ct prog 267 [.v (.int .u8 x0)] σ (fun r σ'=>r= .v (.bool (lC x0))∧σ'=σ):=by
 refine zf (rs:=[.tmp 2]) func267 ntmps267 results267 ?_;simp only [aN];refine aY fun all K Z=>?_;simp;apply Z;clear Z K all;refine mY ⟨[],[],[],[],[]⟩ fun all hall K Z=>?_;have ga2:aR all 2=some 5:=hall 2;clear hall;refine zs 3 fun K' Y=>?_;simp[ga2];apply Y;clear Y K';refine aU 5 (by simp <;> rfl) ?_;refine⟨fun g1=>?_,fun g1=>?_⟩
 ·try simp at g1
  all_goals try (exfalso;omega)
  all_goals
   simp[ga2];apply Z;clear Z K ga2 all;apply aB;first | (simp [aL,lC,g1];done) | (simp [aL,lC];done) | (simp [aL];unfold lC;(repeat' split) <;> first | (exfalso;omega) | (simp_all;done)) | (simp [aL,lC, *];done) | (simp_all [aL,lC];done) | (simp_all [aL,lC];omega) | (simp [aL,lC] <;> split <;> omega)
 try simp at g1
 all_goals try (exfalso;omega)
 all_goals
  simp[ga2];apply Z;clear Z K ga2 all;apply aB;first | (simp [aL,lC,g1];done) | (simp [aL,lC];done) | (simp [aL];unfold lC;(repeat' split) <;> first | (exfalso;omega) | (simp_all;done)) | (simp [aL,lC, *];done) | (simp_all [aL,lC];done) | (simp_all [aL,lC];omega) | (simp [aL,lC] <;> split <;> omega)
def plain(x0:Int):Bool:=if(gG x0)=true then true
 else if(lC x0)=true then true
  else decide (x0=45)
theorem Xj(x0:Int)(σ:List (List D))  :Ct prog 254 [.v (.int .u8 x0)] σ (fun r σ'=>r= .v (.bool (plain x0))∧σ'=σ):=by
 refine zf (rs:=[.tmp 2]) func254 ntmps254 results254 ?_;simp only [aN];refine aY fun all K Z=>?_;simp;apply Z;clear Z K all;refine mY ⟨[],[],[],[],[]⟩ fun all hall K Z=>?_;have ga2:aR all 2=some 5:=hall 2;have ga6:aR all 6=some 9:=hall 6;clear hall;refine zs 1 fun K' Y=>?_;simp[ga2,ga6];apply Y;clear Y K';refine aD fun K' Y=>?_;simp[ga2,ga6];refine cH (Dk x0 _) ?_;apply Y;clear Y K';refine zs 1 fun K' Y=>?_;simp[ga2,ga6];apply Y;clear Y K';refine aU 5 (by simp <;> rfl) ?_;refine⟨fun g1=>?_,fun g1=>?_⟩
 ·try simp at g1
  all_goals try (exfalso;omega)
  all_goals
   refine zs 4 fun K' Y=>?_;simp[ga2,ga6];apply Y;clear Y K';simp[ga2,ga6];apply Z;clear Z K ga2 ga6 all;apply aB;first | (simp [aL,plain,g1];done) | (simp [aL,plain];done) | (simp [aL];unfold plain;(repeat' split) <;> first | (exfalso;omega) | (simp_all;done)) | (simp [aL,plain, *];done) | (simp_all [aL,plain];done) | (simp_all [aL,plain];omega) | (simp [aL,plain] <;> split <;> omega)
 try simp at g1
 all_goals try (exfalso;omega)
 all_goals
  refine zs 1 fun K' Y=>?_;simp[ga2,ga6];apply Y;clear Y K';refine zg ga2 fun K' Y=>?_;simp[ga2,ga6];refine cH (Zp x0 _) ?_;apply Y;clear Y K';refine zs 2 fun K' Y=>?_;simp[ga2,ga6];apply Y;clear Y K';refine aU 9 (by simp <;> rfl) ?_;refine⟨fun g2=>?_,fun g2=>?_⟩
  ·try simp at g2
   all_goals try (exfalso;omega)
   all_goals
    simp[ga2,ga6];apply Z;clear Z K ga2 ga6 all;apply aB;first | (simp [aL,plain,g1,g2];done) | (simp [aL,plain];done) | (simp [aL];unfold plain;(repeat' split) <;> first | (exfalso;omega) | (simp_all;done)) | (simp [aL,plain, *];done) | (simp_all [aL,plain];done) | (simp_all [aL,plain];omega) | (simp [aL,plain] <;> split <;> omega)
  try simp at g2
  all_goals try (exfalso;omega)
  all_goals
   simp[ga2,ga6];apply Z;clear Z K ga2 ga6 all;apply aB;first | (simp [aL,plain,g1,g2];done) | (simp [aL,plain];done) | (simp [aL];unfold plain;(repeat' split) <;> first | (exfalso;omega) | (simp_all;done)) | (simp [aL,plain, *];done) | (simp_all [aL,plain];done) | (simp_all [aL,plain];omega) | (simp [aL,plain] <;> split <;> omega)
def cM (x0 : Int) : Bool := if x0 ≥ 97 then if x0 ≤ 122 then true
  else if x0≥48 then if x0≤57 then true
    else decide (x0=45)
   else decide (x0=45)
 else if x0≥48 then if x0≤57 then true
   else decide (x0=45)
  else decide (x0=45)
theorem Vt (x0 : Int) (σ : List (List D))  : Ct prog 216 [.v (.int .u8 x0)] σ (fun r σ' => r = .v (.bool (cM x0)) ∧ σ' = σ) := by
 refine zf (rs:=[.tmp 2]) func216 ntmps216 results216 ?_;simp only [aN];refine aY fun all K Z=>?_;simp;apply Z;clear Z K all;refine mY ⟨[],[],[],[],[]⟩ fun all hall K Z=>?_;have ga2:aR all 2=some 5:=hall 2;have ga6:aR all 6=some 9:=hall 6;have ga9:aR all 9=some 12:=hall 9;have ga14:aR all 14=some 17:=hall 14;clear hall;refine zs 3 fun K' Y=>?_;simp[ga2,ga6,ga9,ga14];apply Y;clear Y K';refine aU 5 (by simp <;> rfl) ?_;refine⟨fun g1=>?_,fun g1=>?_⟩
 ·try simp at g1
  all_goals try (exfalso;omega)
  all_goals
   refine zs 4 fun K' Y=>?_;simp[ga2,ga6,ga9,ga14];apply Y;clear Y K';refine aU 9 (by simp <;> rfl) ?_;refine⟨fun g2=>?_,fun g2=>?_⟩
   ·try simp at g2
    all_goals try (exfalso;omega)
    all_goals
     refine zs 8 fun K' Y=>?_;simp[ga2,ga6,ga9,ga14];apply Y;clear Y K';simp[ga2,ga6,ga9,ga14];apply Z;clear Z K ga2 ga6 ga9 ga14 all;apply aB;first | (simp [aL,cM,g1,g2];done) | (simp [aL,cM];done) | (simp [aL];unfold cM;(repeat' split) <;> first | (exfalso;omega) | (simp_all;done)) | (simp [aL,cM, *];done) | (simp_all [aL,cM];done) | (simp_all [aL,cM];omega) | (simp [aL,cM] <;> split <;> omega)
   try simp at g2
   all_goals try (exfalso;omega)
   all_goals
    refine zs 3 fun K' Y=>?_;simp[ga2,ga6,ga9,ga14];apply Y;clear Y K';refine aU 12 (by simp <;> rfl) ?_;refine⟨fun g3=>?_,fun g3=>?_⟩
    ·try simp at g3
     all_goals try (exfalso;omega)
     all_goals
      refine zs 5 fun K' Y=>?_;simp[ga2,ga6,ga9,ga14];apply Y;clear Y K';refine aU 17 (by simp <;> rfl) ?_;refine⟨fun g4=>?_,fun g4=>?_⟩
      ·try simp at g4
       all_goals try (exfalso;omega)
       all_goals
        simp[ga2,ga6,ga9,ga14];apply Z;clear Z K ga2 ga6 ga9 ga14 all;apply aB;first | (simp [aL,cM,g1,g2,g3,g4];done) | (simp [aL,cM];done) | (simp [aL];unfold cM;(repeat' split) <;> first | (exfalso;omega) | (simp_all;done)) | (simp [aL,cM, *];done) | (simp_all [aL,cM];done) | (simp_all [aL,cM];omega) | (simp [aL,cM] <;> split <;> omega)
      try simp at g4
      all_goals try (exfalso;omega)
      all_goals
       simp[ga2,ga6,ga9,ga14];apply Z;clear Z K ga2 ga6 ga9 ga14 all;apply aB;first | (simp [aL,cM,g1,g2,g3,g4];done) | (simp [aL,cM];done) | (simp [aL];unfold cM;(repeat' split) <;> first | (exfalso;omega) | (simp_all;done)) | (simp [aL,cM, *];done) | (simp_all [aL,cM];done) | (simp_all [aL,cM];omega) | (simp [aL,cM] <;> split <;> omega)
    try simp at g3
    all_goals try (exfalso;omega)
    all_goals
     refine zs 5 fun K' Y=>?_;simp[ga2,ga6,ga9,ga14];apply Y;clear Y K';simp[ga2,ga6,ga9,ga14];apply Z;clear Z K ga2 ga6 ga9 ga14 all;apply aB;first | (simp [aL,cM,g1,g2,g3];done) | (simp [aL,cM];done) | (simp [aL];unfold cM;(repeat' split) <;> first | (exfalso;omega) | (simp_all;done)) | (simp [aL,cM, *];done) | (simp_all [aL,cM];done) | (simp_all [aL,cM];omega) | (simp [aL,cM] <;> split <;> omega)
 try simp at g1
 all_goals try (exfalso;omega)
 all_goals
  refine zs 4 fun K' Y=>?_;simp[ga2,ga6,ga9,ga14];apply Y;clear Y K';refine zs 3 fun K' Y=>?_;simp[ga2,ga6,ga9,ga14];apply Y;clear Y K';refine aU 12 (by simp <;> rfl) ?_;refine⟨fun g5=>?_,fun g5=>?_⟩
  ·try simp at g5
   all_goals try (exfalso;omega)
   all_goals
    refine zs 5 fun K' Y=>?_;simp[ga2,ga6,ga9,ga14];apply Y;clear Y K';refine aU 17 (by simp <;> rfl) ?_;refine⟨fun g6=>?_,fun g6=>?_⟩
    ·try simp at g6
     all_goals try (exfalso;omega)
     all_goals
      simp[ga2,ga6,ga9,ga14];apply Z;clear Z K ga2 ga6 ga9 ga14 all;apply aB;first | (simp [aL,cM,g1,g5,g6];done) | (simp [aL,cM];done) | (simp [aL];unfold cM;(repeat' split) <;> first | (exfalso;omega) | (simp_all;done)) | (simp [aL,cM, *];done) | (simp_all [aL,cM];done) | (simp_all [aL,cM];omega) | (simp [aL,cM] <;> split <;> omega)
    try simp at g6
    all_goals try (exfalso;omega)
    all_goals
     simp[ga2,ga6,ga9,ga14];apply Z;clear Z K ga2 ga6 ga9 ga14 all;apply aB;first | (simp [aL,cM,g1,g5,g6];done) | (simp [aL,cM];done) | (simp [aL];unfold cM;(repeat' split) <;> first | (exfalso;omega) | (simp_all;done)) | (simp [aL,cM, *];done) | (simp_all [aL,cM];done) | (simp_all [aL,cM];omega) | (simp [aL,cM] <;> split <;> omega)
  try simp at g5
  all_goals try (exfalso;omega)
  all_goals
   refine zs 5 fun K' Y=>?_;simp[ga2,ga6,ga9,ga14];apply Y;clear Y K';simp[ga2,ga6,ga9,ga14];apply Z;clear Z K ga2 ga6 ga9 ga14 all;apply aB;first | (simp [aL,cM,g1,g5];done) | (simp [aL,cM];done) | (simp [aL];unfold cM;(repeat' split) <;> first | (exfalso;omega) | (simp_all;done)) | (simp [aL,cM, *];done) | (simp_all [aL,cM];done) | (simp_all [aL,cM];omega) | (simp [aL,cM] <;> split <;> omega)
theorem aJb(x:Int):lV x=Hc x:=by
 unfold lV Hc
 repeat' split
 all_goals first | rfl | omega | skip
theorem Mh(x:Int):gG x=true↔97≤x∧x≤122:=by unfold gG;simp
theorem Dx(x:Int):plain x=true↔(97≤x∧x≤122)∨(48≤x∧x≤57)∨x=45:=by
 unfold plain gG lC;repeat' split
 all_goals simp_all
 all_goals omega
theorem Nk(x:Int):cM x=true↔(97≤x∧x≤122)∨(48≤x∧x≤57)∨x=45:=by
 unfold cM;repeat' split
 all_goals simp_all
 all_goals omega
theorem Eh(x:Int):cM x=plain x:=by rw [Bool.eq_iff_iff,Nk,Dx]
def vM(s:ByteArray):Bool:=decide (1≤s.size∧s.size≤16) && Jg plain s
def fS(s:ByteArray):Bool:=vM s && decide (97≤gF s 0)
theorem Ij(s:ByteArray):(s=⟨#[]⟩)↔s.size=0:=by
 constructor
 ·rintro rfl;rfl
 intro h;cases s with
 | mk d=>
  have:d.size=0:=h;have:d=#[]:=by simpa using this
  rw [this]
theorem aD3(s:ByteArray)(p:Int→Bool)(f:FuncId)(σ:List (List D))(hs:s.size≤9223372036854775807)(hp:∀x τ,Ct prog f [.v (.int .u8 x)] τ (fun r τ'=>r= .bool (p x)∧τ'=τ)):Ct prog 253 [D.str s,.clo (.func f) [] []] σ (fun r σ'=>r= .bool (Jg p s)∧σ'=σ):=by
 refine zf (rs:=[.tmp 4]) func253 ntmps253 results253 ?_;simp only [aN];refine aY fun _ _ Z=>?_;simp;apply Z;apply aC;refine aY fun _ _ Z=>?_;simp;and_intros<;>(try omega);apply Z;apply aG;refine zk [0,1,4,7,8] ?_;refine bI (fun(k:Nat)=> [(8,.d (.v (.int .i64 (k:Int)))),(5,.d (.any))]) [4,5,8,9,10,11,12,13,14,15,16,17] (fun(k:Nat)=>k≤s.size∧∀j,j<k→p (gF s j)=true) (fun(k:Nat)=>s.size - k) (0) (by simp <;> rfl) ?_ ?_ ?_
 ·simp
 ·simp
 rintro k ⟨hk,hh⟩;simp only [List.cons_append,List.nil_append];refine aY fun _ _ Z=>?_;simp;apply Z;apply aC;refine zi ?_;refine⟨fun c1=>?_,fun c1=>?_⟩
 ·try simp at c1
  apply aE;apply aA;apply aC;apply aG;refine aY fun _ _ Z=>?_;simp;apply Z;refine aY fun _ _ Z=>?_;refine zs 4 fun _ Y=>?_;simp;and_intros<;>(try omega);apply Y;refine aD fun _ Y=>?_;simp;refine cH (hp (gF s k) _) ?_;apply Y;simp;apply Z;refine zi ?_;refine⟨fun c2=>?_,fun c2=>?_⟩
  ·try simp at c2
   refine zk [0,1,5,7,8] ?_;refine aY fun _ _ Z=>?_;simp;apply Z;apply aB;apply aQ;apply aJ;apply fD;apply aQ;apply aJ;simp [aL];exact aBj (k:=k) (by simpa [gF] using c2) (by omega)
  try simp at c2
  apply aE;apply aK;apply aA;refine zk [0,1,5,7,8] ?_;refine yL fun _ _ Z=>?_;simp;and_intros<;>(try omega);apply Z;refine zq (k+1) ?_ ?_ ?_
  ·exact⟨by omega,Aj hh (by simpa [gF] using c2)⟩
  ·try dsimp only
   omega
  simp
 try simp at c1
 apply bC;apply bB;apply bD;apply aX;apply aA;refine aY fun _ _ Z=>?_;simp;apply Z;apply aB;simp [aL];exact Ym hh (by omega)
theorem aD4(s:ByteArray)(σ:List (List D))(hs:s.size≤9223372036854775807):Ct prog 227 [D.str s] σ (fun r σ'=>r= .bool (vM s)∧σ'=σ):=by
 refine zf (rs:=[.tmp 2]) func227 ntmps227 results227 ?_;simp only [aN];refine aY fun _ _ Z=>?_;simp;apply Z;refine mY ⟨[],[],[],[],[]⟩ fun all hall _ Z=>?_;have ga2:aR all 2=some 5:=hall 2;have ga7:aR all 7=some 10:=hall 7;refine zs 3 fun _ Y=>?_;simp[ga2,ga7];apply Y;refine aU 5 (by simp <;> rfl) ?_;refine⟨fun g1=>?_,fun g1=>?_⟩
 ·try simp at g1
  refine zs 5 fun _ Y=>?_;simp[ga2,ga7];and_intros<;>(try omega);apply Y;refine aU 10 (by simp <;> rfl) ?_;refine⟨fun g2=>?_,fun g2=>?_⟩
  ·try simp at g2
   refine zs 1 fun _ Y=>?_;simp[ga2,ga7];apply Y;refine zg ga7 fun _ Y=>?_;simp[ga2,ga7];refine cH (aD3 s plain 254 _ hs (fun x τ=>Xj x τ)) ?_;apply Y;simp[ga2,ga7];apply Z;apply aB;simp [aL,vM];rw [Ij] at g1
   intros;omega
  try simp at g2
  simp[ga2,ga7];apply Z;apply aB;simp [aL,vM]
  intros;omega
 try simp at g1
 refine zs 5 fun _ Y=>?_;simp[ga2,ga7];apply Y;simp[ga2,ga7];apply Z;apply aB;simp [aL,vM];rw [Ij] at g1
 intros;omega
theorem zU {s:ByteArray} (h:vM s=true):0<s.size∧s.size≤16:=by
 unfold vM at h;simp at h;omega
theorem Lg {s:ByteArray} (h:vM s=true):gG (gF s 0)=decide (97≤gF s 0):=by
 have hp:=(zU h).1;unfold vM at h;rw [Bool.and_eq_true] at h;have:=aJm h.2 0 hp;rw [Dx] at this;rw [Bool.eq_iff_iff,Mh,decide_eq_true_eq];omega
theorem pY(s:ByteArray)(σ:List (List D))(hs:s.size≤9223372036854775807):Ct prog 193 [D.str s] σ (fun r σ'=>r= .bool (fS s)∧σ'=σ):=by
 refine zf (rs:=[.tmp 2]) func193 ntmps193 results193 ?_;simp only [aN];refine aY fun _ _ Z=>?_;simp;apply Z;refine mY ⟨[],[],[],[],[]⟩ fun all hall _ Z=>?_;have ga2:aR all 2=some 5:=hall 2;refine zs 1 fun _ Y=>?_;simp[ga2];apply Y;refine aD fun _ Y=>?_;simp[ga2];refine cH (aD4 s _ hs) ?_;apply Y;refine zs 1 fun _ Y=>?_;simp[ga2];apply Y;refine aU 5 (by simp <;> rfl) ?_;refine⟨fun g1=>?_,fun g1=>?_⟩
 ·try simp at g1
  have hpos:=zU g1;refine zs 2 fun _ Y=>?_;simp[ga2];and_intros<;>(try omega);apply Y;refine zg ga2 fun _ Y=>?_;simp[ga2];refine cH (Dk (gF s 0) _) ?_;apply Y;simp[ga2];apply Z;apply aB;simp [aL,fS,g1,Lg g1]
 try simp at g1
 simp[ga2];apply Z;apply aB;simp [aL,fS,g1]
theorem aE9(s:ByteArray)(σ:List (List D))(hs:s.size≤9223372036854775807):Ct prog 162 [D.str s] σ (fun r σ'=>r= .bool (vM s)∧σ'=σ):=by
 refine zf (rs:=[.tmp 2]) func162 ntmps162 results162 ?_;simp only [aN];refine aY fun _ _ Z=>?_;simp;apply Z;apply aC;refine aY fun _ _ Z=>?_;simp;apply Z;apply aG;refine zk [0,2,3] ?_;refine bI (fun(k:Nat)=> [(3,.d (.v (.int .i64 (k:Int))))]) [2,3,4,5,6,7,8,9,10,11,12,13,14] (fun(k:Nat)=>k≤s.size∧∀j,j<k→plain (gF s j)=true) (fun(k:Nat)=>s.size - k) (0) (by simp <;> rfl) ?_ ?_ ?_
 ·simp
 ·simp
 rintro k ⟨hk,hh⟩;simp only [List.cons_append,List.nil_append];apply aC;refine aY fun _ _ Z=>?_;simp;and_intros<;>(try omega);apply Z;refine zi ?_;refine⟨fun c1=>?_,fun c1=>?_⟩
 ·try simp at c1
  apply aE;apply aA;apply aC;apply aG;refine aY fun _ _ Z=>?_;refine zs 3 fun _ Y=>?_;simp;and_intros<;>(try omega);apply Y;refine aD fun _ Y=>?_;simp;refine cH (Vt (gF s k) _) ?_;apply Y;simp;apply Z;refine zi ?_;refine⟨fun c2=>?_,fun c2=>?_⟩
  ·try simp at c2
   refine aY fun _ _ Z=>?_;simp;apply Z;apply aB;apply aQ;apply aJ;apply fD;apply aQ;apply aJ;simp [aL,vM];intro _ _;exact aBj (k:=k) (by rw [← Eh];simpa [gF] using c2) (by omega)
  try simp at c2
  apply aE;apply aK;apply aA;refine yL fun _ _ Z=>?_;simp;and_intros<;>(try omega);apply Z;refine zq (k+1) ?_ ?_ ?_
  ·exact⟨by omega,Aj hh (by rw [← Eh];simpa [gF] using c2)⟩
  ·try dsimp only
   omega
  simp
 try simp at c1
 apply bC;apply bB;apply bD;apply aX;apply aA;refine mY ⟨[],[],[],[],[]⟩ fun all hall _ Z=>?_;have ga3:aR all 3=some 18:=hall 3;refine zs 4 fun _ Y=>?_;simp[ga3];and_intros<;>(try omega);apply Y;refine aU 18 (by simp <;> rfl) ?_;refine⟨fun g3=>?_,fun g3=>?_⟩
 ·try simp at g3
  simp[ga3];and_intros<;>(try omega);apply Z;apply aB;simp [aL,vM];have:=Ym (p:=plain) (s:=s) hh (by omega);simp [this];rw [Bool.eq_iff_iff];simp;omega
 try simp at g3
 simp[ga3];apply Z;apply aB;simp [aL,vM]
 intros;omega
theorem Ji(s:ByteArray)(σ:List (List D))(hs:s.size≤9223372036854775807):Ct prog 71 [D.str s] σ (fun r σ'=>r= .bool (fS s)∧σ'=σ):=by
 refine zf (rs:=[.tmp 2]) func71 ntmps71 results71 ?_;simp only [aN];refine aY fun _ _ Z=>?_;simp;apply Z;refine mY ⟨[],[],[],[],[]⟩ fun all hall _ Z=>?_;have ga2:aR all 2=some 5:=hall 2;refine zs 1 fun _ Y=>?_;simp[ga2];apply Y;refine aD fun _ Y=>?_;simp[ga2];refine cH (aE9 s _ hs) ?_;apply Y;refine zs 1 fun _ Y=>?_;simp[ga2];apply Y;refine aU 5 (by simp <;> rfl) ?_;refine⟨fun g1=>?_,fun g1=>?_⟩
 ·try simp at g1
  have hpos:=zU g1;simp[ga2];and_intros<;>(try omega);apply Z;apply aB;simp [aL,fS,g1,gF];rfl
 try simp at g1
 simp[ga2];apply Z;apply aB;simp [aL,fS,g1]
def Lk(n:Nat)(s:ByteArray):ByteArray:=if n<s.size then s.extract 0 n else s
theorem Kk(n:Nat)(s:ByteArray):(Lk n s).size≤n:=by
 unfold Lk;split
 ·simp;omega
 omega
theorem aCf(s:ByteArray)(n:Nat)(σ:List (List D))(hn:n≤1000000):Ct prog 20 [D.str s,D.int n] σ (fun r σ'=>r= .v (.string (Lk n s))∧σ'=σ):=by
 refine zf (rs:=[.tmp 4]) func20 ntmps20 results20 ?_;simp only [aN];refine aY fun _ _ Z=>?_;simp;apply Z;apply aC;refine aY fun _ _ Z=>?_;simp;and_intros<;>(try omega);apply Z;refine zi ?_;refine⟨fun c1=>?_,fun c1=>?_⟩
 ·try simp at c1
  refine aY fun _ _ Z=>?_;simp;and_intros<;>(try omega);apply Z;apply aB;apply aJ;simp [aL,Lk,c1]
 try simp at c1
 apply aE;apply aA;refine aY fun _ _ Z=>?_;simp;apply Z;apply aB;simp [aL,Lk];intro h;omega
end Go.Proofs.YtbgfljpnhhdkoaaGreat
