/- Contracts of functions of the program, for the claims of this seat. -/
import Derived.Test.YtciempegimofhaaAI
import Derived.Test.YtciempegimofhaaA1
set_option linter.unusedSectionVars false
set_option linter.unusedSimpArgs false
set_option linter.unusedVariables false
set_option linter.unnecessarySimpa false
namespace Go.Proofs.Ytciempegimofhaa
open Go.AM Go.AMA Go.ChangeShapes Go.WideShapes Go.RowKit
theorem rdInt : Rd Try.prog 3 ci i64 := (Rd.int Try.underlying3).map id (fun _ => rfl) (fun _ h => h) id (fun _ => rfl)
theorem rdBool : Rd Try.prog 4 cb (fun _ => True) := Rd.bool Try.underlying4
theorem rdByte : Rd Try.prog 5 (fun n : Int => .c (.int .u8 n)) (fun n => 0 ≤ n ∧ n ≤ 255) := (Rd.int Try.underlying5).map id (fun _ => rfl) (fun _ h => h) id (fun _ => rfl)
theorem rdPair : Rd Try.prog 23 cpair (fun p => i64 p.1 ∧ i64 p.2) :=
  (Rd.struct (arr := #[_, _]) Try.underlying23 (by kernel_rfl) (RdFs.cons rdInt rfl (by kernel_rfl) (RdFs.cons rdInt rfl (by kernel_rfl) RdFs.nil))).map (fun p => (p.1, p.2.1)) (fun _ => rfl) (fun _ h => ⟨h.1, h.2.1⟩) (fun p => (p.1, p.2, ())) (fun _ => rfl)
theorem rdDeal : Rd Try.prog 29 cdeal (fun p => i64 p.1 ∧ i64 p.2.1 ∧ i64 p.2.2) :=
  (Rd.struct (arr := #[_, _, _]) Try.underlying29 (by kernel_rfl) (RdFs.cons rdInt rfl (by kernel_rfl) (RdFs.cons rdInt rfl (by kernel_rfl) (RdFs.cons rdInt rfl (by kernel_rfl) RdFs.nil)))).map (fun p => (p.1, p.2.1, p.2.2.1)) (fun _ => rfl) (fun _ h => ⟨h.1, h.2.1, h.2.2.1⟩) (fun p => (p.1, p.2.1, p.2.2, ())) (fun _ => rfl)
theorem rdPairs : Rd Try.prog 39 lP (fun l => l.length ≤ maxLen ∧ ∀ a ∈ l, i64 a.1 ∧ i64 a.2) := Rd.slice Try.underlying39 (by kernel_rfl) (by decide) rdPair
theorem rdInts : Rd Try.prog 53 lI (fun l => l.length ≤ maxLen ∧ ∀ a ∈ l, i64 a) := Rd.slice Try.underlying53 (by kernel_rfl) (by decide) rdInt
theorem rdBools : Rd Try.prog 59 lB (fun l => l.length ≤ maxLen ∧ ∀ a ∈ l, True) := Rd.slice Try.underlying59 (by kernel_rfl) (by decide) rdBool
end Go.Proofs.Ytciempegimofhaa
