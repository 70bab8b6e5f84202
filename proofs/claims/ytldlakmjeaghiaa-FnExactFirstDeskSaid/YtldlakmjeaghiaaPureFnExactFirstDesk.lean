/- For every input the program's FirstDesk returns what the reference's returns. No conditions. -/
import Derived.Test.YtldlakmjeaghiaaPFnExactFirstDeskx2
namespace Go.Proofs.Ytldlakmjeaghiaa.Pure
open Go.RowKit Go.Proofs.Ytldlakmjeaghiaa.PFnExactFirstDesk Go.Proofs.YtldlakmjeaghiaaW.PrintWords Go.Proofs.YtldlakmjeaghiaaW.PrintLast

theorem FnExactFirstDesk : laws_FnExactFirstDesk.Pure := ⟨30, by decide +kernel⟩

end Go.Proofs.Ytldlakmjeaghiaa.Pure
