/- Proved: for every input the law FnSums returns true and leaves its arguments as they were. Conditions: none. -/
import Derived.Test.YtciempegimofhaaAR2
import Derived.Test.YtciempegimofhaaA12
set_option linter.unusedSectionVars false
set_option linter.unusedSimpArgs false
set_option linter.unusedVariables false
set_option linter.unnecessarySimpa false
namespace Go.Proofs.Ytciempegimofhaa.fnSums
open Go.AM Go.AMA Go.ChangeShapes Go.WideShapes Go.RowKit
set_option maxRecDepth 100000 in
theorem lifted (os : Os) (started : os.Started) (H : Type) (enc : TypeId × Value → H) :
    ReturnsInHanded {} Try.checked os 10 .any (Rows.fnSumsSpec.pre6 enc Try.prog Try.f10 Rows.fnSumsRow.domain false) (Rows.fnSumsSpec.post enc Try.prog Try.f10 false true false false) := by
  refine returnsInHanded_of_change (C := Try.checked) own started (by kernel_rfl) Try.func10
    (ChangeSpec.witness6 (enc := enc) (C := Try.checked) false ⟨#[], #[.slice none 0 0], []⟩ 8 (by kernel_rfl) (by kernel_rfl) (by kernel_rfl) (by kernel_rfl)) ?_
  intro W base args ds gs before hval hW _ _
  exact law_contract (P := Try.prog) rfl rfl rfl Try.underlying4 rfl kids full (by decide +kernel) (RdAll.cons rdBytes RdAll.nil) (fun H ds h => by match ds, h with | [_], _ => rfl) (fun a ha => law10 a.1 ha.1.1) H enc W base args ds gs before hval hW

set_option maxRecDepth 100000 in
theorem closed : joinedFacts Try.prog 10 Try.f10 Rows.fnSumsSpec Rows.fnSumsRow = true := joined_of initT laysF bearsF fitsF rfl rfl (by kernel_rfl)

theorem proved : Rows.FnSumsSaid :=
  OpenClaim.holds_of_wide 10 Try.f10 rfl rfl rfl rfl rfl rfl rfl ⟨rfl, rfl, rfl, rfl, rfl⟩ rfl rfl rfl rfl rfl (by kernel_rfl) Try.func10 closed
    (of_decide_eq_true (by kernel_rfl)) (by unfold Func.isWrapper; first | (rw [if_pos (by decide +kernel)]; kernel_rfl) | (rw [if_neg (by decide +kernel)]; exact ⟨rfl, rfl⟩))
    (fun os started H enc _ => lifted os started H enc)
end Go.Proofs.Ytciempegimofhaa.fnSums
