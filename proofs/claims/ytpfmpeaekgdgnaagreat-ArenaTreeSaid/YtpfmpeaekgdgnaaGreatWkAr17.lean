import Derived.Test.YtpfmpeaekgdgnaaGreatArAw
namespace Go.Proofs.YtpfmpeaekgdgnaaGreat
open Go Go.Vm
set_option maxRecDepth 20000
set_option linter.all false
set_option maxHeartbeats 8000000
end Go.Proofs.YtpfmpeaekgdgnaaGreat

