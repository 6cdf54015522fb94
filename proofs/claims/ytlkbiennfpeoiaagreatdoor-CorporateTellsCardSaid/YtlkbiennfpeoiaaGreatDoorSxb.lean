/- Part 2 of the proof. -/
import Derived.Laws.CopyRow
import Derived.Laws.Append
import Derived.Shelf.Spec.SlicesInsertGrow
import Derived.Test.YtlkbiennfpeoiaaGreatDoorProg
import Derived.Deep.LoopGhost
set_option linter.unusedVariables false
set_option linter.unusedSimpArgs false
set_option linter.unusedSectionVars false
section
namespace Go
variable {P:Program}
end Go
end
section
namespace Go.Proofs
open Go.RowKit Go.Lib
end Go.Proofs
end
