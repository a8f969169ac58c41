/- The program's constants have the values of the specification: FnExactConstants returns true. No conditions. -/
import Derived.Test.YthkipbdnfkpbgaaPFnExactConstantsx1
namespace Go.Proofs.Ythkipbdnfkpbgaa.Pure
open Go.RowKit Go.Proofs.Ythkipbdnfkpbgaa.PFnExactConstants Go.Proofs.YthkipbdnfkpbgaaW.PrintWords Go.Proofs.YthkipbdnfkpbgaaW.PrintLast

theorem FnExactConstants : laws_FnExactConstants.Pure := rfl

end Go.Proofs.Ythkipbdnfkpbgaa.Pure
