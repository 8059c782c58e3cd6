import Derived.Test.YtbgfljpnhhdkoaaGreatWkAr5
import Derived.Test.YtbgfljpnhhdkoaaGreatLisBs
import Derived.Test.YtbgfljpnhhdkoaaGreatVmZ
import Derived.Test.YtbgfljpnhhdkoaaGreatWkAr9
set_option linter.all false
set_option maxRecDepth 20000
set_option maxHeartbeats 8000000
namespace Go.Proofs.YtbgfljpnhhdkoaaGreat
open Go Go.Vm
@[simp] abbrev dN(l:List Nat):List D:=l.map fun e:Nat=>D.int (e:Int)
theorem fJ(k:IntKind)(n:Int):(Value.int k n).oneCell'=true:=rfl
theorem lS(σ X:List (List D))(j:Nat):(σ++X)[σ.length+j]?=X[j]?:=by rw [bX (by omega),nN]
theorem fF(σ X:List (List D)):(σ++X)[σ.length]?=X[0]?:=lS σ X 0
end Go.Proofs.YtbgfljpnhhdkoaaGreat
