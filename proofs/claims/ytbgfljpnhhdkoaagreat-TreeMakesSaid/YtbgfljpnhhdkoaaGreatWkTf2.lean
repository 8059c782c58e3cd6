import Derived.Test.YtbgfljpnhhdkoaaGreatTeSw
import Derived.Test.YtbgfljpnhhdkoaaGreatTeCl
set_option maxRecDepth 20000
set_option linter.all false
set_option maxHeartbeats 8000000
open Go.Proofs.Tryz
namespace Go.Proofs.YtbgfljpnhhdkoaaGreat
open Go Go.Vm
theorem Vx(q:Nat)(os:List Nat)(k mv:Nat->Int)(σ:List (List D))(hI:IQ σ q os)(hN:os.length<1000000)(hx:∀x∈os,∃cs,σ[x]?=some cs/\cs[15]?=some (D.int (k x))/\cs[16]?=some (D.int (mv x))):Ct prog 39 [.ref q 0] σ (fun r σ'=>r= .int ((os.countP (fun x=> !(decide (k x=0) && decide (mv x=0))):Nat):Int)/\σ'=σ):=by
 refine zf func39 ?_;refine bB fun _ _ Z=>?_;simp;apply Z;refine bB fun _ _ Z=>?_;refine zs 1 fun _ Y=>?_;simp;apply Y;refine aF fun _ Y=>?_;simp;refine cT (aDy hI hN k mv hx) ?_;apply Y;simp;apply Z;apply aC;simp [aH]
theorem aEw(q:Nat)(os:List Nat)(k:Nat->Int)(σ:List (List D))(hI:IQ σ q os)(hN:os.length<1000000)(hx:∀x∈os,∃cs mv dx dy,σ[x]?=some cs/\cs[15]?=some (D.int (k x))/\cs[16]?=some (D.int mv)/\cs[17]?=some (D.int dx)/\cs[18]?=some (D.int dy)):Ct prog 40 [.ref q 0] σ (fun r σ'=>r= .int ((os.countP (fun x=>ghK (k x)):Nat):Int)/\σ'=σ):=by
 refine zf func40 ?_;refine bB fun _ _ Z=>?_;simp;apply Z;refine bB fun _ _ Z=>?_;refine zs 1 fun _ Y=>?_;simp;apply Y;refine aF fun _ Y=>?_;simp;refine cT (aEr hI hN k hx) ?_;apply Y;simp;apply Z;apply aC;simp [aH]
end Go.Proofs.YtbgfljpnhhdkoaaGreat
