import Derived.Test.YtbnppofkpgfhnaaI6
import Derived.Test.YtbnppofkpgfhnaaS6
namespace Go.Proofs.Ytbnppofkpgfhnaa
open Go Go.Ah
set_option linter.unusedSimpArgs false
set_option linter.unusedVariables false
set_option maxRecDepth 10000
set_option maxHeartbeats 4000000

end Go.Proofs.Ytbnppofkpgfhnaa
