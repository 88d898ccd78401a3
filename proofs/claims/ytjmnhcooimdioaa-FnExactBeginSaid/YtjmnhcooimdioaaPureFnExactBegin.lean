/- The program's Begin answers as the reference's Begin does; there are no arguments. -/
import Derived.Test.YtjmnhcooimdioaaPFnExactBeginx8
import Derived.Test.YtjmnhcooimdioaaBits
import Derived.Test.YtjmnhcooimdioaaLoops
namespace Go.Proofs.Ytjmnhcooimdioaa.Pure
open Go Go.RowKit Go.Proofs.Ytjmnhcooimdioaa.PFnExactBegin Go.Proofs.YtjmnhcooimdioaaW.PrintWords Go.Proofs.YtjmnhcooimdioaaW.PrintLast Go.Proofs.YtjmnhcooimdioaaW.PrintMore Go.Proofs.Ytjmnhcooimdioaa.BitsLib Go.Proofs.Ytjmnhcooimdioaa.Loops
set_option linter.unusedVariables false
set_option linter.unusedSimpArgs false
set_option maxRecDepth 4000

-- SAYS: The program's Begin answers as the reference's Begin does; there are no arguments.
theorem FnExactBegin : ∃ k, laws_FnExactBegin.f k = some true := ⟨20, by decide +kernel⟩

end Go.Proofs.Ytjmnhcooimdioaa.Pure
