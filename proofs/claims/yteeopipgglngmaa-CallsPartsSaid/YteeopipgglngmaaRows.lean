/-
  No cell of these rows narrows 'for every input' (looked for: loops, veiled, ifaces, maps, wideKeys, modest, calm, conditions, laid).
  DERIVED. THE GIVEN ROWS OF THIS SEAT. 5 by the template 'for every input the law returns true; each argument reads behind the call as it read before'; 0 by the template 'total and deterministic' (their statements: YteeopipgglngmaaTotals.lean).
  GIVEN WITH THE SEED: the statements are not yours to turn. If you find one false, say at which input.
  Laid BY PROGRAM, IN A SANDBOX (cutbox-rows.mjs): the forced cells as the released guide's own fill.sh prints them over the translation 5f3d60a9169ae45b… (all of the seat's roots in one cut). By AI agents, Wed Nov 11 2026. No macro, syntax, notation, axiom, sorry.
-/
import Derived.Test.YteeopipgglngmaaChecked
import GoSem.Claim
import GoSem.ClaimJoined
import GoSem.ClaimMapViews
import Derived.JoinedTies
import Derived.KernelRfl
namespace Go.Proofs.Yteeopipgglngmaa
/- THE CELL 'sum', in the pinned program and in every row, IS THE sha256 OF THE DUMP (.gsa) THAT YteeopipgglngmaaProg.lean LOADS. Nothing in Lean hashes anything: it is a label: what it is worth is what the hold of that sum in a sandbox is worth. -/
noncomputable def Try.pinned : Pinned := { name := "yteeopipgglngmaa", sum := "5f3d60a9169ae45b1b2be8bcd95cf9735746ece3c0783aa7fcf764864a66352c", checked := Try.checked }
namespace Rows
def none {H : Type} : Left H := { results := [], args := [] }

/-- 'smithylaw19.CallsParts': WHATEVER THE INPUT: true; the input reads as it did. -/
def callsPartsSpec : ChangeSpec := { name := "callsParts", fn := fun _ => fun
  | [d] => { results := [.lit (.bool true)], args := [d] }
  | _ => none }
def callsPartsRow : OpenClaim := { program := "yteeopipgglngmaa", sum := "5f3d60a9169ae45b1b2be8bcd95cf9735746ece3c0783aa7fcf764864a66352c", func := "smithy/smithylaw19.CallsParts", spec := "callsParts", recurses := true, apart := false }
def CallsPartsSaid : Prop := callsPartsRow.holds Try.pinned (OpenSpec.ofChange callsPartsSpec)

/-- ITS FALSE NEIGHBOUR: 'it returns false'. Refute it at one input. -/
def callsPartsWrong : ChangeSpec := { name := "callsParts", fn := fun _ => fun
  | [d] => { results := [.lit (.bool false)], args := [d] }
  | _ => none }
def CallsPartsWrongFalsely : Prop := callsPartsRow.holds Try.pinned (OpenSpec.ofChange callsPartsWrong)

/-- 'smithylaw19.CallsCalled': WHATEVER THE INPUT: true; the input reads as it did. -/
def callsCalledSpec : ChangeSpec := { name := "callsCalled", fn := fun _ => fun
  | [d] => { results := [.lit (.bool true)], args := [d] }
  | _ => none }
def callsCalledRow : OpenClaim := { program := "yteeopipgglngmaa", sum := "5f3d60a9169ae45b1b2be8bcd95cf9735746ece3c0783aa7fcf764864a66352c", func := "smithy/smithylaw19.CallsCalled", spec := "callsCalled", recurses := true, apart := false }
def CallsCalledSaid : Prop := callsCalledRow.holds Try.pinned (OpenSpec.ofChange callsCalledSpec)

/-- ITS FALSE NEIGHBOUR: 'it returns false'. Refute it at one input. -/
def callsCalledWrong : ChangeSpec := { name := "callsCalled", fn := fun _ => fun
  | [d] => { results := [.lit (.bool false)], args := [d] }
  | _ => none }
def CallsCalledWrongFalsely : Prop := callsCalledRow.holds Try.pinned (OpenSpec.ofChange callsCalledWrong)

/-- 'smithylaw19.CallsNumbers': WHATEVER THE INPUT: true; the input reads as it did. -/
def callsNumbersSpec : ChangeSpec := { name := "callsNumbers", fn := fun _ => fun
  | [] => { results := [.lit (.bool true)], args := [] }
  | _ => none }
def callsNumbersRow : OpenClaim := { program := "yteeopipgglngmaa", sum := "5f3d60a9169ae45b1b2be8bcd95cf9735746ece3c0783aa7fcf764864a66352c", func := "smithy/smithylaw19.CallsNumbers", spec := "callsNumbers", recurses := true, apart := false }
def CallsNumbersSaid : Prop := callsNumbersRow.holds Try.pinned (OpenSpec.ofChange callsNumbersSpec)

/-- ITS FALSE NEIGHBOUR: 'it returns false'. Refute it at one input. -/
def callsNumbersWrong : ChangeSpec := { name := "callsNumbers", fn := fun _ => fun
  | [] => { results := [.lit (.bool false)], args := [] }
  | _ => none }
def CallsNumbersWrongFalsely : Prop := callsNumbersRow.holds Try.pinned (OpenSpec.ofChange callsNumbersWrong)

/-- 'smithylaw19.CallsOrder': WHATEVER THE INPUT: true; the input reads as it did. -/
def callsOrderSpec : ChangeSpec := { name := "callsOrder", fn := fun _ => fun
  | [d] => { results := [.lit (.bool true)], args := [d] }
  | _ => none }
def callsOrderRow : OpenClaim := { program := "yteeopipgglngmaa", sum := "5f3d60a9169ae45b1b2be8bcd95cf9735746ece3c0783aa7fcf764864a66352c", func := "smithy/smithylaw19.CallsOrder", spec := "callsOrder", recurses := true, apart := false }
def CallsOrderSaid : Prop := callsOrderRow.holds Try.pinned (OpenSpec.ofChange callsOrderSpec)

/-- ITS FALSE NEIGHBOUR: 'it returns false'. Refute it at one input. -/
def callsOrderWrong : ChangeSpec := { name := "callsOrder", fn := fun _ => fun
  | [d] => { results := [.lit (.bool false)], args := [d] }
  | _ => none }
def CallsOrderWrongFalsely : Prop := callsOrderRow.holds Try.pinned (OpenSpec.ofChange callsOrderWrong)

/-- 'smithylaw19.CallsRound': WHATEVER THE INPUT: true; the input reads as it did. -/
def callsRoundSpec : ChangeSpec := { name := "callsRound", fn := fun _ => fun
  | [d] => { results := [.lit (.bool true)], args := [d] }
  | _ => none }
def callsRoundRow : OpenClaim := { program := "yteeopipgglngmaa", sum := "5f3d60a9169ae45b1b2be8bcd95cf9735746ece3c0783aa7fcf764864a66352c", func := "smithy/smithylaw19.CallsRound", spec := "callsRound", recurses := true, apart := false }
def CallsRoundSaid : Prop := callsRoundRow.holds Try.pinned (OpenSpec.ofChange callsRoundSpec)

/-- ITS FALSE NEIGHBOUR: 'it returns false'. Refute it at one input. -/
def callsRoundWrong : ChangeSpec := { name := "callsRound", fn := fun _ => fun
  | [d] => { results := [.lit (.bool false)], args := [d] }
  | _ => none }
def CallsRoundWrongFalsely : Prop := callsRoundRow.holds Try.pinned (OpenSpec.ofChange callsRoundWrong)

/- THE SECOND FORM. 'bulk': how many values and letters a reading holds, each counted each time it is reached (what is shared counts as often as it is met; a slice's spare places count too). A statement '..UptoSaid' is the law's where the arguments, and the package variables that the reading takes, are together of bulk at most 1048576: NARROWER than '..Said'. Prove '..Said' where nothing that the law and all that it calls make is longer than what came in: it says more and counts as full. Else prove '..UptoSaid'. A law counts once. -/
mutual
def uptoBulk {H : Type} : DataW H → Nat
  | .lit (.string bytes) => bytes.length + 1
  | .lit _ => 1
  | .nil => 1
  | .ptr d => uptoBulk d + 1
  | .slice elems spare => uptoBulkAll elems + uptoBulkAll spare + 1
  | .agg parts => uptoBulkAll parts + 1
  | .iface _ d => uptoBulk d + 1
  | .map entries => uptoBulkEntries entries + 1
  | .held _ => 1
def uptoBulkAll {H : Type} : List (DataW H) → Nat
  | [] => 0
  | d :: r => uptoBulk d + uptoBulkAll r
def uptoBulkEntries {H : Type} : List (Lit × DataW H) → Nat
  | [] => 0
  | x :: r => uptoBulkEntry x + uptoBulkEntries r
def uptoBulkEntry {H : Type} : Lit × DataW H → Nat
  | (.string bytes, d) => bytes.length + uptoBulk d + 1
  | (_, d) => uptoBulk d + 1
 end
def uptoSmall : (H : Type) → List (DataW H) → Bool := fun _ ds => decide (uptoBulkAll ds ≤ 1048576)
def OpenSpec.upto (s : _root_.Go.ChangeSpec) : _root_.Go.OpenSpec := { _root_.Go.OpenSpec.ofChange s with cond := some uptoSmall }

/-- 'smithylaw19.CallsParts', WHERE WHAT IT READS IS OF BULK AT MOST 1048576: true; the input reads as it did. -/
def callsPartsUptoRow : OpenClaim := { program := "yteeopipgglngmaa", sum := "5f3d60a9169ae45b1b2be8bcd95cf9735746ece3c0783aa7fcf764864a66352c", func := "smithy/smithylaw19.CallsParts", spec := "callsParts", recurses := true, apart := false, narrowed := true }
def CallsPartsUptoSaid : Prop := callsPartsUptoRow.holds Try.pinned (OpenSpec.upto callsPartsSpec)

/-- 'smithylaw19.CallsCalled', WHERE WHAT IT READS IS OF BULK AT MOST 1048576: true; the input reads as it did. -/
def callsCalledUptoRow : OpenClaim := { program := "yteeopipgglngmaa", sum := "5f3d60a9169ae45b1b2be8bcd95cf9735746ece3c0783aa7fcf764864a66352c", func := "smithy/smithylaw19.CallsCalled", spec := "callsCalled", recurses := true, apart := false, narrowed := true }
def CallsCalledUptoSaid : Prop := callsCalledUptoRow.holds Try.pinned (OpenSpec.upto callsCalledSpec)

/-- 'smithylaw19.CallsNumbers', WHERE WHAT IT READS IS OF BULK AT MOST 1048576: true; the input reads as it did. -/
def callsNumbersUptoRow : OpenClaim := { program := "yteeopipgglngmaa", sum := "5f3d60a9169ae45b1b2be8bcd95cf9735746ece3c0783aa7fcf764864a66352c", func := "smithy/smithylaw19.CallsNumbers", spec := "callsNumbers", recurses := true, apart := false, narrowed := true }
def CallsNumbersUptoSaid : Prop := callsNumbersUptoRow.holds Try.pinned (OpenSpec.upto callsNumbersSpec)

/-- 'smithylaw19.CallsOrder', WHERE WHAT IT READS IS OF BULK AT MOST 1048576: true; the input reads as it did. -/
def callsOrderUptoRow : OpenClaim := { program := "yteeopipgglngmaa", sum := "5f3d60a9169ae45b1b2be8bcd95cf9735746ece3c0783aa7fcf764864a66352c", func := "smithy/smithylaw19.CallsOrder", spec := "callsOrder", recurses := true, apart := false, narrowed := true }
def CallsOrderUptoSaid : Prop := callsOrderUptoRow.holds Try.pinned (OpenSpec.upto callsOrderSpec)

/-- 'smithylaw19.CallsRound', WHERE WHAT IT READS IS OF BULK AT MOST 1048576: true; the input reads as it did. -/
def callsRoundUptoRow : OpenClaim := { program := "yteeopipgglngmaa", sum := "5f3d60a9169ae45b1b2be8bcd95cf9735746ece3c0783aa7fcf764864a66352c", func := "smithy/smithylaw19.CallsRound", spec := "callsRound", recurses := true, apart := false, narrowed := true }
def CallsRoundUptoSaid : Prop := callsRoundUptoRow.holds Try.pinned (OpenSpec.upto callsRoundSpec)

end Rows
end Go.Proofs.Yteeopipgglngmaa
