/- Contracts of functions of the program, for the claims of this seat. -/
import Derived.Test.YtciempegimofhaaAR
import Derived.Test.YtciempegimofhaaA10
set_option linter.unusedSectionVars false
set_option linter.unusedSimpArgs false
set_option linter.unusedVariables false
set_option linter.unnecessarySimpa false
namespace Go.Proofs.Ytciempegimofhaa
open Go.AM Go.AMA Go.ChangeShapes Go.WideShapes Go.RowKit
theorem rdByte2 : Rd Try.prog 5 cy (fun n => 0 ≤ n ∧ n ≤ 255) := (Rd.int Try.underlying5).map id (fun _ => rfl) (fun _ h => h) id (fun _ => rfl)
theorem rdBytes : Rd Try.prog 46 lY (fun l => l.length ≤ maxLen ∧ ∀ a ∈ l, 0 ≤ a ∧ a ≤ 255) := Rd.slice Try.underlying46 (by kernel_rfl) (by decide) rdByte2
end Go.Proofs.Ytciempegimofhaa
