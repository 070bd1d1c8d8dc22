/- Each exported constant has the value of the reference: the law's function answers true. -/
import Derived.Test.YtahbndcmnpiejaaPFnExactConstantsx1
namespace Go.Proofs.Ytahbndcmnpiejaa.Pure
open Go.RowKit Go.Proofs.Ytahbndcmnpiejaa.PFnExactConstants Go.Proofs.YtahbndcmnpiejaaW.PrintWords Go.Proofs.YtahbndcmnpiejaaW.PrintLast

theorem FnExactConstants : laws_FnExactConstants.Pure := rfl

end Go.Proofs.Ytahbndcmnpiejaa.Pure
