/- The functions that the law FnExactWriteSector reaches, each with what it computes and its contract. -/
import Derived.Test.YtinilabmffjnaaaQFnExactWriteSectorx0
import Derived.Test.YtinilabmffjnaaaQFnExactWriteSectorx8
import Derived.Test.YtinilabmffjnaaaQFnExactWriteSectorx9
namespace Go.Proofs.Ytinilabmffjnaaa.PFnExactWriteSector
open Go.RowKit Go.Proofs.YtinilabmffjnaaaW.PrintWords Go.Proofs.YtinilabmffjnaaaW.PrintLast Go.Proofs.YtinilabmffjnaaaW.PrintMore
attribute [local go_sem] max2_int min2_int max_two min_two max_three min_three max_four min_four   -- for this text's walks alone
set_option linter.unusedVariables false
set_option linter.unusedSimpArgs false

end Go.Proofs.Ytinilabmffjnaaa.PFnExactWriteSector
