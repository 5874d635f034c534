/- plain functions: what the code computes. -/
import Derived.Test.YtdelcjkjkhcaoabOwPT
import Derived.Test.YtdelcjkjkhcaoabOwPU
import Derived.Test.YtdelcjkjkhcaoabOwPA
import Derived.Test.YtdelcjkjkhcaoabOwPB
import Derived.Test.YtdelcjkjkhcaoabOwPstore
import Derived.Test.YtdelcjkjkhcaoabOwPstoreb
namespace Go.Ow
set_option linter.unusedVariables false
set_option linter.unusedSimpArgs false


end Go.Ow
