import Derived.Test.YtbgfljpnhhdkoaaGreatWkWv4
set_option linter.all false
namespace Go.Proofs.YtbgfljpnhhdkoaaGreat.Lis
set_option maxHeartbeats 1000000
end Go.Proofs.YtbgfljpnhhdkoaaGreat.Lis
namespace Go.Proofs.YtbgfljpnhhdkoaaGreat
open Go Go.Vm
set_option maxRecDepth 20000
set_option maxHeartbeats 8000000
set_option maxRecDepth 20000
set_option maxHeartbeats 8000000
end Go.Proofs.YtbgfljpnhhdkoaaGreat
