/- 'smithylaw19.CallsCalled' answers true whatever list of graphs it is given, and the list reads afterwards as it did. Conditions: none. -/
import Derived.Test.YteeopipgglngmaaRows
import Derived.Test.YteeopipgglngmaaRdG
import Derived.Test.YteeopipgglngmaaFn21
import Derived.ProofKit
import Derived.OpenShut
set_option linter.all false
namespace Go.Proofs.Yteeopipgglngmaa.callsCalled
open Go.Aw Go.RowKit
set_option linter.unusedVariables false

theorem own : ownKnob Try.prog.godebug = none := by kernel_rfl

set_option maxRecDepth 100000 in
theorem lifted (os : Os) (started : os.Started) (H : Type) (enc : TypeId × Value → H) :
    ReturnsInHanded {} Try.checked os 4 .any (Rows.callsCalledSpec.pre6 enc Try.prog Try.f4 Rows.callsCalledRow.domain false) (Rows.callsCalledSpec.post enc Try.prog Try.f4 false true false false) := by
  refine returnsInHanded_of_change_sized (C := Try.checked) own started (by kernel_rfl) Try.func4
    (ChangeSpec.witness6 (enc := enc) (C := Try.checked) false ⟨#[], #[.slice none 0 0], []⟩ 8 (by kernel_rfl) (by kernel_rfl) (by kernel_rfl) (by kernel_rfl)) ?_
  intro W base args ds gs before hval hW _ hsz _
  exact law_one laid (by kernel_rfl) (of_decide_eq_true (by kernel_rfl)) Try.underlying29 Try.underlying4 Try.params4 (by kernel_rfl) rfl (fun _ => rfl) rdGraphs (fun x h => callsCalledP _ x h) hval hW hsz

theorem over : Rows.callsCalledRow.holds Try.pinned (OpenSpec.ofChange Rows.callsCalledSpec) :=
  OpenClaim.holds_of_wide 4 Try.f4 rfl rfl rfl rfl rfl rfl rfl ⟨rfl, rfl, rfl, rfl, rfl⟩ rfl rfl rfl rfl rfl (by kernel_rfl) Try.func4 (by kernel_rfl)
    (of_decide_eq_true (by kernel_rfl)) (by unfold Func.isWrapper; first | (rw [if_pos (by decide +kernel)]; kernel_rfl) | (rw [if_neg (by decide +kernel)]; exact ⟨rfl, rfl⟩))
    (fun os started H enc _ => lifted os started H enc)

theorem proved : Rows.CallsCalledSaid :=
  over
end Go.Proofs.Yteeopipgglngmaa.callsCalled
