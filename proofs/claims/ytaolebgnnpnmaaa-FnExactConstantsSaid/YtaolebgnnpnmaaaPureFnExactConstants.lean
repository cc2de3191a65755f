/- The plain law of laws.FnExactConstants: the printed function answers true. No conditions. -/
import Derived.Test.YtaolebgnnpnmaaaPFnExactConstantsx1
namespace Go.Proofs.Ytaolebgnnpnmaaa.Pure
open Go.RowKit Go.Proofs.Ytaolebgnnpnmaaa.PFnExactConstants Go.Proofs.YtaolebgnnpnmaaaW.PrintWords Go.Proofs.YtaolebgnnpnmaaaW.PrintLast

theorem FnExactConstants : laws_FnExactConstants.Pure := rfl

end Go.Proofs.Ytaolebgnnpnmaaa.Pure
