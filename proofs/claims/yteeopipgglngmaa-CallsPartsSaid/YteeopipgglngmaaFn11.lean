/- For the proofs: the trial that comes first, and its values. -/
import Derived.Test.YteeopipgglngmaaFn10
import Derived.Test.YteeopipgglngmaaA4
set_option linter.all false
set_option linter.unusedSimpArgs false
set_option linter.unusedVariables false
set_option maxRecDepth 100000
namespace Go.Aw
open Go Go.Proofs.Try Go.Tar

/-- Sorting by putting in, each value once. -/
def insI (x : Int) : List Int → List Int
  | [] => [x]
  | y :: l => if x < y then x :: y :: l else if x = y then y :: l else y :: insI x l
def sortI (l : List Int) : List Int := l.foldr insI []
theorem insI_spec (x : Int) : ∀ {l : List Int}, l.Pairwise (· < ·) → (insI x l).Pairwise (· < ·) ∧ ∀ v, v ∈ insI x l ↔ v = x ∨ v ∈ l
  | [], _ => ⟨by simp [insI], by simp [insI]⟩
  | y :: l, h => by
    obtain ⟨h1, h2⟩ := List.pairwise_cons.1 h
    obtain ⟨k1, k2⟩ := insI_spec x h2
    unfold insI
    split
    · rename_i hlt
      refine ⟨List.pairwise_cons.2 ⟨fun v hv => ?_, h⟩, by simp⟩
      rcases List.mem_cons.1 hv with rfl | hv
      · exact hlt
      · exact Int.lt_trans hlt (h1 v hv)
    · split
      · rename_i e
        subst e
        exact ⟨h, fun v => by simp⟩
      · refine ⟨List.pairwise_cons.2 ⟨fun v hv => ?_, k1⟩, fun v => ?_⟩
        · rcases (k2 v).1 hv with rfl | hv
          · omega
          · exact h1 v hv
        · rw [List.mem_cons, k2 v, List.mem_cons]
          constructor
          · rintro (h | h | h)
            · exact .inr (.inl h)
            · exact .inl h
            · exact .inr (.inr h)
          · rintro (h | h | h)
            · exact .inr (.inl h)
            · exact .inl h
            · exact .inr (.inr h)
theorem sortI_spec : ∀ l : List Int, (sortI l).Pairwise (· < ·) ∧ ∀ v, v ∈ sortI l ↔ v ∈ l
  | [] => ⟨by simp [sortI], by simp [sortI]⟩
  | x :: l => by
    obtain ⟨h1, h2⟩ := sortI_spec l
    obtain ⟨k1, k2⟩ := insI_spec x h1
    exact ⟨k1, fun v => by rw [List.mem_cons, ← h2]; exact k2 v⟩
theorem canonI_sort (l : List Int) : canonI l = sortI l := ascI_eq (canonI_spec l).1 (sortI_spec l).1 fun v => by rw [(canonI_spec l).2, (sortI_spec l).2]
def sortN (l : List Nat) : List Nat := natL (sortI (castL l))
theorem canonN_sort : canonN = sortN := funext fun l => by rw [canonN, sortN, canonI_sort]
theorem canon_sort (l : List Int) : canon l = sortI l := canonI_sort l
theorem netOf_sort (next : List (List Int)) : netOf next = next.map fun l => sortN (natL l) := by unfold netOf; rw [canonN_sort]
theorem partsLL_sort (next : List (List Int)) : partsLL next = castLL (partsF sortN (next.map fun l => sortN (natL l))) := by rw [partsLL, netOf_sort, canonN_sort]
theorem calledF_sort (p : List Graph) : calledF p = p.map fun g => sortI (callsG p.length g) := by unfold calledF; simp only [canon_sort]

def ring : List (List Int) := [[1], [2], [1], [0]]
theorem ring_parts : partsR ring = .tup [.ro 1 (rowsII [[1, 2], [0], [3]]), .int .i64 0] := by
  have h1 : validB ring = true := by decide
  have h2 : partsLL ring = [[1, 2], [0], [3]] := by rw [partsLL_sort]; decide +kernel
  rw [partsR, if_pos h1, h2]
def three : List Graph := [callerF [1], callerF [0, 0, 9], callerF []]
theorem three_called : calledF three = [[1], [0], []] := by rw [calledF_sort]; decide +kernel
theorem three_round : roundF three = [true, true, false] := by
  unfold roundF
  rw [three_called, partsLL_sort]
  decide +kernel
end Go.Aw
