import Derived.Test.YtbdjepeabjangaaGreatWkAu13
set_option maxRecDepth 20000
set_option linter.all false
set_option maxHeartbeats 8000000
namespace Go.Proofs.YtbdjepeabjangaaGreat
open Go Go.Vm
end Go.Proofs.YtbdjepeabjangaaGreat
