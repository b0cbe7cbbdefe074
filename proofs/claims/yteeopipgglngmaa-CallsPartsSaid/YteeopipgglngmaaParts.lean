/- 'smithylaw19.CallsParts' answers true whatever list of lists of numbers it is given, and the list reads afterwards as it did. Conditions: none. -/
import Derived.Test.YteeopipgglngmaaRows
import Derived.Test.YteeopipgglngmaaRdG
import Derived.Test.YteeopipgglngmaaFn25
import Derived.ProofKit
import Derived.OpenShut
set_option linter.all false
namespace Go.Proofs.Yteeopipgglngmaa.callsParts
open Go.Aw Go.RowKit
set_option linter.unusedVariables false

theorem own : ownKnob Try.prog.godebug = none := by kernel_rfl

set_option maxRecDepth 100000 in
theorem lifted (os : Os) (started : os.Started) (H : Type) (enc : TypeId × Value → H) :
    ReturnsInHanded {} Try.checked os 3 .any (Rows.callsPartsSpec.pre6 enc Try.prog Try.f3 Rows.callsPartsRow.domain false) (Rows.callsPartsSpec.post enc Try.prog Try.f3 false true false false) := by
  refine returnsInHanded_of_change_sized (C := Try.checked) own started (by kernel_rfl) Try.func3
    (ChangeSpec.witness6 (enc := enc) (C := Try.checked) false ⟨#[], #[.slice none 0 0], []⟩ 8 (by kernel_rfl) (by kernel_rfl) (by kernel_rfl) (by kernel_rfl)) ?_
  intro W base args ds gs before hval hW _ hsz _
  exact law_one laid (by kernel_rfl) (of_decide_eq_true (by kernel_rfl)) Try.underlying22 Try.underlying4 Try.params3 (by kernel_rfl) rfl (fun _ => rfl) rdRows (fun x h => callsPartsP _ x fun l hl => Nat.le_trans (h.2 l hl) (by decide)) hval hW hsz

theorem over : Rows.callsPartsRow.holds Try.pinned (OpenSpec.ofChange Rows.callsPartsSpec) :=
  OpenClaim.holds_of_wide 3 Try.f3 rfl rfl rfl rfl rfl rfl rfl ⟨rfl, rfl, rfl, rfl, rfl⟩ rfl rfl rfl rfl rfl (by kernel_rfl) Try.func3 (by kernel_rfl)
    (of_decide_eq_true (by kernel_rfl)) (by unfold Func.isWrapper; first | (rw [if_pos (by decide +kernel)]; kernel_rfl) | (rw [if_neg (by decide +kernel)]; exact ⟨rfl, rfl⟩))
    (fun os started H enc _ => lifted os started H enc)

theorem proved : Rows.CallsPartsSaid :=
  over
end Go.Proofs.Yteeopipgglngmaa.callsParts
