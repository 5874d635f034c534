import Derived.Test.YtpggcoheldampaaGreatDoorOwMb
import Derived.Test.YtpggcoheldampaaGreatDoorOwMc
import Derived.Test.YtpggcoheldampaaGreatDoorOwMe
/- plain functions: what the code computes. -/
namespace Go.Ow
set_option linter.unusedVariables false
set_option linter.unusedSimpArgs false


end Go.Ow
