import Derived.Test.YtbgfljpnhhdkoaaGreatVmZ
import Derived.RangeFuncCalls
import Derived.RangeFuncIn
import Derived.RangeFuncNested
import Derived.RangeFuncBound
import Derived.RangeFuncLeaves
import Derived.Shelf.Abstract
import Derived.Shelf.RegionOpen
import Derived.WalkKit
import Derived.OwnWalkIn
import Derived.TacticsInMore
import Derived.LoopNIn
import Derived.LoopIn
import Derived.Test.YtbgfljpnhhdkoaaGreatVmTab
import Derived.Laws.IdiomStrings
import Derived.Test.YtbgfljpnhhdkoaaGreatWvLaw
set_option linter.all false
set_option maxRecDepth 100000
set_option maxHeartbeats 8000000
namespace Go.Vm
open Go
variable {rr:Option Nat} {dfr:List Deferred}
theorem Fr.putObj {w w':World} {g g':Gh} (h:Fr w g w' g') {D:Nat} {o:Obj} (hB:w.heap.size<=D):Fr w g (w'.putObj D o) g':=
 ⟨h.os,h.tape,h.output,by simpa [World.putObj] using h.size,fun b hb hx=>by
  obtain⟨a,b',c⟩:=h.keep b hb hx;exact⟨(World.putObj_at (by omega)).trans a,b',c⟩,h.mono,h.bs⟩
end Go.Vm
namespace Go.Proofs.YtbgfljpnhhdkoaaGreat
open Go Go.Vm Go.Proofs Go.RowKit Go.Shelf
attribute [local go_sem] Oper.semAt_some
end Go.Proofs.YtbgfljpnhhdkoaaGreat
namespace Go.Vm
open Go
variable {rr:Option Nat} {dfr:List Deferred}
end Go.Vm
namespace Go.Proofs.YtbgfljpnhhdkoaaGreat
open Go Go.Vm
end Go.Proofs.YtbgfljpnhhdkoaaGreat
namespace Go.Proofs.YtbgfljpnhhdkoaaGreat.Lis
def Up(l:List Int)(ends:List Nat):Prop:=∀i j (hi:i<ends.length) (hj:j<ends.length),i<j->wJ l ends[i]<wJ l ends[j]
theorem Up.of {l:List Int} {ends:List Nat} (h:∀p e f,ends[p]?=some e->ends[p+1]?=some f->wJ l e<wJ l f):Up l ends:=by
 intro i j hi hj hij;induction j with
 | zero=>omega
 | succ j ih=>
  have h1:=h j ends[j] ends[j+1] (aS (by omega)) (aS hj);rcases Pw.1 hij with h2 | rfl
  .have:=ih (by omega) h2;omega
  exact h1
structure Bd(i:Nat)(s:List Nat×List Int):Prop where
 ends:∀e∈s.1,e<i
 len:s.2.length=i
 back:∀k,k<i->s.2.getD k (-1)= -1\/∃j:Nat,s.2.getD k (-1)=j/\j<k
end Go.Proofs.YtbgfljpnhhdkoaaGreat.Lis
