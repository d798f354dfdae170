/- The functions that the law FnExactReadSector reaches, each with what it computes and its contract. -/
import Derived.Test.YtinilabmffjnaaaQFnExactReadSectorx0
import Derived.Test.YtinilabmffjnaaaQFnExactReadSectorx1
namespace Go.Proofs.Ytinilabmffjnaaa.PFnExactReadSector
open Go.RowKit Go.Proofs.YtinilabmffjnaaaW.PrintWords Go.Proofs.YtinilabmffjnaaaW.PrintLast Go.Proofs.YtinilabmffjnaaaW.PrintMore
attribute [local go_sem] max2_int min2_int max_two min_two max_three min_three max_four min_four   -- for this text's walks alone
set_option linter.unusedVariables false
set_option linter.unusedSimpArgs false

end Go.Proofs.Ytinilabmffjnaaa.PFnExactReadSector
