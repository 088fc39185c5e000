/- Written by a program (pre.py) from the source of the same name. -/
/- Numbers: the document's answers: take, lists. -/
import Derived.Test.YtbpemnmpcljbpaaNum6
set_option linter.unusedSimpArgs false
set_option linter.unusedVariables false
set_option linter.unnecessarySimpa false
namespace Go.Proofs.Ytbpemnmpcljbpaa
open Go.Gar
set_option maxRecDepth 4000

end Go.Proofs.Ytbpemnmpcljbpaa
