/- Contracts of functions of the program, for the claims of this seat. -/
import Derived.Test.YtciempegimofhaaAI
import Derived.Test.YtciempegimofhaaA1
set_option linter.unusedSectionVars false
set_option linter.unusedSimpArgs false
set_option linter.unusedVariables false
set_option linter.unnecessarySimpa false
namespace Go.Proofs.Ytciempegimofhaa
open Go.AM Go.AMA Go.ChangeShapes Go.WideShapes Go.RowKit
theorem rdInt : Rd Try.prog 3 ci i64 := (Rd.int Try.underlying3).map id (fun _ => rfl) (fun _ h => h) id (fun _ => rfl)
theorem rdPair : Rd Try.prog 23 cpair (fun p => i64 p.1 ∧ i64 p.2) :=
  (Rd.struct (arr := #[_, _]) Try.underlying23 (by kernel_rfl) (RdFs.cons rdInt rfl (by kernel_rfl) (RdFs.cons rdInt rfl (by kernel_rfl) RdFs.nil))).map (fun p => (p.1, p.2.1)) (fun _ => rfl) (fun _ h => ⟨h.1, h.2.1⟩) (fun p => (p.1, p.2, ())) (fun _ => rfl)

end Go.Proofs.Ytciempegimofhaa
