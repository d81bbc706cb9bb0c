/- Proved: for every input the law FnExactUniqueSum returns true and leaves its arguments as they were. Conditions: none. -/
import Derived.Test.YtciempegimofhaaAR
import Derived.Test.YtciempegimofhaaA4
set_option linter.unusedSectionVars false
set_option linter.unusedSimpArgs false
set_option linter.unusedVariables false
set_option linter.unnecessarySimpa false
namespace Go.Proofs.Ytciempegimofhaa.fnExactUniqueSum
open Go.AM Go.AMA Go.ChangeShapes Go.WideShapes Go.RowKit
set_option maxRecDepth 100000 in
theorem lifted (os : Os) (started : os.Started) (H : Type) (enc : TypeId × Value → H) :
    ReturnsInHanded {} Try.checked os 9 .any (Rows.fnExactUniqueSumSpec.pre6 enc Try.prog Try.f9 Rows.fnExactUniqueSumRow.domain false) (Rows.fnExactUniqueSumSpec.post enc Try.prog Try.f9 false true false false) := by
  refine returnsInHanded_of_change (C := Try.checked) own started (by kernel_rfl) Try.func9
    (ChangeSpec.witness6 (enc := enc) (C := Try.checked) false ⟨#[], #[.slice none 0 0, .agg #[.int .i64 0, .int .i64 0]], []⟩ 8 (by kernel_rfl) (by kernel_rfl) (by kernel_rfl) (by kernel_rfl)) ?_
  intro W base args ds gs before hval hW _ _
  exact law_contract (P := Try.prog) rfl rfl rfl Try.underlying4 rfl kids full (by decide +kernel) (RdAll.cons rdPairs (RdAll.cons rdPair RdAll.nil)) (fun H ds h => by match ds, h with | [_, _], _ => rfl) (fun a ha => law9 a.1 a.2.1 ha.1.1) H enc W base args ds gs before hval hW

set_option maxRecDepth 100000 in
theorem closed : joinedFacts Try.prog 9 Try.f9 Rows.fnExactUniqueSumSpec Rows.fnExactUniqueSumRow = true := joined_of initT laysF bearsF fitsF rfl rfl (by kernel_rfl)

theorem proved : Rows.FnExactUniqueSumSaid :=
  OpenClaim.holds_of_wide 9 Try.f9 rfl rfl rfl rfl rfl rfl rfl ⟨rfl, rfl, rfl, rfl, rfl⟩ rfl rfl rfl rfl rfl (by kernel_rfl) Try.func9 closed
    (of_decide_eq_true (by kernel_rfl)) (by unfold Func.isWrapper; first | (rw [if_pos (by decide +kernel)]; kernel_rfl) | (rw [if_neg (by decide +kernel)]; exact ⟨rfl, rfl⟩))
    (fun os started H enc _ => lifted os started H enc)
end Go.Proofs.Ytciempegimofhaa.fnExactUniqueSum
