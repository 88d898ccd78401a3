/- The program's constants are the reference's. -/
import Derived.Test.YtfjknhmepgfhaaaPFnExactConstantsx1
namespace Go.Proofs.Ytfjknhmepgfhaaa.Pure
open Go.RowKit Go.Proofs.Ytfjknhmepgfhaaa.PFnExactConstants Go.Proofs.YtfjknhmepgfhaaaW.PrintWords Go.Proofs.YtfjknhmepgfhaaaW.PrintLast

theorem FnExactConstants : laws_FnExactConstants.f = some true := rfl

end Go.Proofs.Ytfjknhmepgfhaaa.Pure
