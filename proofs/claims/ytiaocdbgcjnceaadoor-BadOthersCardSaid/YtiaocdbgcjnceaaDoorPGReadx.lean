-- Printed by this session's program gprint.py over the kit's print.py.
import Derived.Test.YtiaocdbgcjnceaaDoorPGReadx0
import Derived.Test.YtiaocdbgcjnceaaDoorPGReadx1
namespace Go.Proofs.YtiaocdbgcjnceaaDoor.PGRead
open Go.RowKit Go.Proofs.YtiaocdbgcjnceaaDoorW.PrintWords Go.Proofs.YtiaocdbgcjnceaaDoorW.PrintLast Go.Proofs.YtiaocdbgcjnceaaDoorW.PrintMore
attribute [local go_sem] max2_int min2_int max_two min_two max_three min_three max_four min_four   -- for this text's walks alone
set_option linter.unusedVariables false
set_option linter.unusedSimpArgs false

end Go.Proofs.YtiaocdbgcjnceaaDoor.PGRead
