/- The law FnExactConstants answers true: every constant of the program is the one the reference names; no condition. -/
import Derived.Test.YtljfhfkmbgkpoaaKit
import Derived.Test.YtljfhfkmbgkpoaaPFnExactConstantsx1
namespace Go.Proofs.Ytljfhfkmbgkpoaa.Pure
open Go.RowKit Go.Proofs.Ytljfhfkmbgkpoaa.PFnExactConstants Go.Proofs.YtljfhfkmbgkpoaaW.PrintWords Go.Proofs.YtljfhfkmbgkpoaaW.PrintLast Go.Proofs.Ytljfhfkmbgkpoaa

theorem FnExactConstants : laws_FnExactConstants.Pure := rfl

end Go.Proofs.Ytljfhfkmbgkpoaa.Pure
