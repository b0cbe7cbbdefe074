/- 'smithylaw19.CallsOrder' answers true whatever list of lists of numbers it is given, and the list reads afterwards as it did. Conditions: none. -/
import Derived.Test.YteeopipgglngmaaRows
import Derived.Test.YteeopipgglngmaaRdG
import Derived.Test.YteeopipgglngmaaFn17
import Derived.ProofKit
import Derived.OpenShut
set_option linter.all false
namespace Go.Proofs.Yteeopipgglngmaa.callsOrder
open Go.Aw Go.RowKit
set_option linter.unusedVariables false

theorem own : ownKnob Try.prog.godebug = none := by kernel_rfl

set_option maxRecDepth 100000 in
theorem lifted (os : Os) (started : os.Started) (H : Type) (enc : TypeId × Value → H) :
    ReturnsInHanded {} Try.checked os 6 .any (Rows.callsOrderSpec.pre6 enc Try.prog Try.f6 Rows.callsOrderRow.domain false) (Rows.callsOrderSpec.post enc Try.prog Try.f6 false true false false) := by
  refine returnsInHanded_of_change_sized (C := Try.checked) own started (by kernel_rfl) Try.func6
    (ChangeSpec.witness6 (enc := enc) (C := Try.checked) false ⟨#[], #[.slice none 0 0], []⟩ 8 (by kernel_rfl) (by kernel_rfl) (by kernel_rfl) (by kernel_rfl)) ?_
  intro W base args ds gs before hval hW _ hsz _
  exact law_one laid (by kernel_rfl) (of_decide_eq_true (by kernel_rfl)) Try.underlying22 Try.underlying4 Try.params6 (by kernel_rfl) rfl (fun _ => rfl) rdRows (fun x h => callsOrderP _ x (Nat.le_trans h.1 (by decide)) fun l hl => Nat.le_trans (h.2 l hl) (by decide)) hval hW hsz

theorem over : Rows.callsOrderRow.holds Try.pinned (OpenSpec.ofChange Rows.callsOrderSpec) :=
  OpenClaim.holds_of_wide 6 Try.f6 rfl rfl rfl rfl rfl rfl rfl ⟨rfl, rfl, rfl, rfl, rfl⟩ rfl rfl rfl rfl rfl (by kernel_rfl) Try.func6 (by kernel_rfl)
    (of_decide_eq_true (by kernel_rfl)) (by unfold Func.isWrapper; first | (rw [if_pos (by decide +kernel)]; kernel_rfl) | (rw [if_neg (by decide +kernel)]; exact ⟨rfl, rfl⟩))
    (fun os started H enc _ => lifted os started H enc)

theorem proved : Rows.CallsOrderSaid :=
  over
end Go.Proofs.Yteeopipgglngmaa.callsOrder
