/- plain functions: what the code computes. -/
import Derived.Test.YtdelcjkjkhcaoaaOwPT
import Derived.Test.YtdelcjkjkhcaoaaOwPU
import Derived.Test.YtdelcjkjkhcaoaaOwPA
import Derived.Test.YtdelcjkjkhcaoaaOwPB
import Derived.Test.YtdelcjkjkhcaoaaOwPstore
namespace Go.Ow
set_option linter.unusedVariables false
set_option linter.unusedSimpArgs false


end Go.Ow
