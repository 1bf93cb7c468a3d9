-- printed by a program of this session's (xprint.py) out of the translation; Lean checks it
import Derived.Test.YtdgejkiackeieaaDoorFT1
namespace Go.Proofs.YtdgejkiackeieaaDoor.PDigestTells
open Go.RowKit Go.Proofs.YtdgejkiackeieaaDoorW.PrintWords Go.Proofs.YtdgejkiackeieaaDoorW.PrintLast Go.Proofs.YtdgejkiackeieaaDoorW.PrintMore
attribute [local go_sem] max2_int min2_int max_two min_two max_three min_three max_four min_four   -- for this text's walks alone
set_option linter.unusedVariables false
set_option linter.unusedSimpArgs false

end Go.Proofs.YtdgejkiackeieaaDoor.PDigestTells
