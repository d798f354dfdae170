/- The pure statement of the law FnExactConstants: each constant of the program has the reference's value. No conditions. -/
import Derived.Test.YtglefkldomabdaaPFnExactConstantsx1
namespace Go.Proofs.Ytglefkldomabdaa.Pure
open Go.RowKit Go.Proofs.Ytglefkldomabdaa.PFnExactConstants Go.Proofs.YtglefkldomabdaaW.PrintWords Go.Proofs.YtglefkldomabdaaW.PrintLast

/-- YOURS: laws_FnExactConstants.f  = some true
What it reaches (each with k first where it has rounds; `.mono`: more rounds tell the same; `.l0`, ..: its loops, with `.mono_l`): laws_FnExactConstants.f -/
theorem FnExactConstants : laws_FnExactConstants.Pure := by
  exact rfl

end Go.Proofs.Ytglefkldomabdaa.Pure
