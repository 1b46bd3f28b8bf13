/- Package fields: a writer. -/
import Derived.Test.YtchlgagdbflkmaaGreatDoorK13
import Derived.Test.YtchlgagdbflkmaaGreatDoorV35
import Derived.Test.YtchlgagdbflkmaaGreatDoorK33
set_option linter.unusedVariables false
set_option linter.unusedSimpArgs false
section
open Go.RowKit Go.Pl Go.Av
namespace Go.Proofs.YtchlgagdbflkmaaGreatDoor
set_option maxHeartbeats 4000000
end Go.Proofs.YtchlgagdbflkmaaGreatDoor
end
