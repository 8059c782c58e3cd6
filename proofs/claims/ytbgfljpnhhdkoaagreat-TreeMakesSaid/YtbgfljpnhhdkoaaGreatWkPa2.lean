import Derived.Test.YtbgfljpnhhdkoaaGreatWkWr2
import Derived.Test.YtbgfljpnhhdkoaaGreatWkWv4
import Derived.Test.YtbgfljpnhhdkoaaGreatPaKid
set_option linter.all false
set_option maxRecDepth 20000
set_option maxHeartbeats 8000000
namespace Go.Proofs.YtbgfljpnhhdkoaaGreat
open Go Go.Vm
end Go.Proofs.YtbgfljpnhhdkoaaGreat
