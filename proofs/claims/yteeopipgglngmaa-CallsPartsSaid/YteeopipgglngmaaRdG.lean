/- For the proofs: lists of graphs, as they are handed in. -/
import Derived.Test.YteeopipgglngmaaA5
import Derived.Test.YteeopipgglngmaaTyA
import Derived.Test.YteeopipgglngmaaFn3
set_option linter.all false
set_option linter.unusedVariables false
namespace Go.Aw
open Go Go.Proofs.Try

theorem rdInt : Rd prog 3 (fun n : Int => [.int .i64 n]) (fun n => (Lit.int .i64 n).wf = true) := Rd.int underlying3
theorem rdU8 (t : TypeId) (h : prog.underlying t = some (.int .u8)) : Rd prog t (fun n : Int => [.int .u8 n]) (fun n => (Lit.int .u8 n).wf = true) := Rd.int h
theorem rdInts : Rd prog 35 (fun xs : List Int => [.ro 1 (rowsI xs)]) (fun xs => xs.length ≤ reachBytes / 8) :=
  (Rd.slice rdInt underlying35 (s := 1) (b := 8) (by kernel_rfl) (by decide) (by kernel_rfl) (by decide)).conv id (fun _ => rfl) fun xs h => by
    have := h.1
    show xs.length ≤ _
    omega
theorem rdIns : Rd prog 69 insC (fun _ => True) :=
  (Rd.struct (fs := [_, _, _, _, _, _]) (n := 1 + (1 + (1 + (1 + (1 + (1 + 0)))))) (.cons (rdU8 65 underlying65) rfl (by kernel_rfl) (.cons (rdU8 66 underlying66) rfl (by kernel_rfl) (.cons rdInt rfl (by kernel_rfl) (.cons rdInts rfl (by kernel_rfl) (.cons (Rd.int underlying67) rfl (by kernel_rfl) (.cons rdInt rfl (by kernel_rfl) (.nil 6))))))) underlying69 (by kernel_rfl)).conv
    (fun x => (⟨x.1, x.2.1, x.2.2.1, x.2.2.2.1, x.2.2.2.2.1, x.2.2.2.2.2.1⟩ : Ins)) (fun _ => rfl) fun _ _ => trivial
theorem rdTerm : Rd prog 62 termC (fun _ => True) :=
  (Rd.struct (fs := [_, _, _, _]) (n := 1 + (1 + (2 + (1 + 0)))) (.cons (rdU8 58 underlying58) rfl (by kernel_rfl) (.cons rdInt rfl (by kernel_rfl) (.cons (Rd.two (k := 1) rdInt underlying59 (by kernel_rfl) (by kernel_rfl)) rfl (by kernel_rfl) (.cons (rdU8 60 underlying60) rfl (by kernel_rfl) (.nil 5))))) underlying62 (by kernel_rfl)).conv
    (fun x => (⟨x.1, x.2.1, x.2.2.1.1, x.2.2.1.2, x.2.2.2.1⟩ : Term)) (fun _ => rfl) fun _ _ => trivial
theorem rdBlock : Rd prog 64 blockC okB :=
  (Rd.struct (fs := [_, _]) (n := 1 + (5 + 0)) (.cons (Rd.slice rdIns underlying57 (s := 6) (b := 56) (by kernel_rfl) (by decide) (by kernel_rfl) (by decide)) rfl (by kernel_rfl) (.cons rdTerm rfl (by kernel_rfl) (.nil 6))) underlying64 (by kernel_rfl)).conv
    (fun x => (⟨x.1, x.2.1⟩ : Block)) (fun _ => rfl) fun x h => by
      have := h.1.1
      have e : reachBytes = 140737488351232 := rfl
      show x.1.length ≤ _
      omega
theorem rdArr : Rd prog 115 arrC (fun _ => True) :=
  (Rd.struct (fs := [_, _]) (n := 1 + (1 + 0)) (.cons (rdU8 37 underlying37) rfl (by kernel_rfl) (.cons rdInt rfl (by kernel_rfl) (.nil 2))) underlying115 (by kernel_rfl)).conv
    (fun x => (⟨x.1, x.2.1⟩ : Arr)) (fun _ => rfl) fun _ _ => trivial
theorem rdGraph : Rd prog 42 graphC okG :=
  (Rd.struct (fs := [_, _, _, _, _, _]) (n := 1 + (1 + (1 + (1 + (1 + (1 + 0)))))) (.cons (Rd.str underlying9) rfl (by kernel_rfl) (.cons rdInts rfl (by kernel_rfl) (.cons (rdU8 37 underlying37) rfl (by kernel_rfl)
    (.cons (Rd.slice (rdU8 37 underlying37) underlying38 (s := 1) (b := 1) (by kernel_rfl) (by decide) (by kernel_rfl) (by decide)) rfl (by kernel_rfl)
    (.cons (Rd.slice rdArr underlying39 (s := 2) (b := 16) (by kernel_rfl) (by decide) (by kernel_rfl) (by decide)) rfl (by kernel_rfl)
    (.cons (Rd.slice rdBlock underlying40 (s := 6) (b := 64) (by kernel_rfl) (by decide) (by kernel_rfl) (by decide)) rfl (by kernel_rfl) (.nil 6))))))) underlying42 (by kernel_rfl)).conv
    (fun x => (⟨x.1, x.2.1, x.2.2.1, x.2.2.2.1, x.2.2.2.2.1, x.2.2.2.2.2.1⟩ : Graph)) (fun _ => rfl) fun x h => by
      have hb := h.2.2.2.2.2.1
      have := hb.1
      have e : reachBytes = 140737488351232 := rfl
      refine ⟨?_, hb.2⟩
      show x.2.2.2.2.2.1.length ≤ _
      omega
theorem rdGraphs : Rd prog 29 (fun p : List Graph => [.ro 6 (rowsGr p)]) (fun p => ∀ g ∈ p, okG g) :=
  (Rd.slice rdGraph underlying29 (s := 6) (b := 120) (by kernel_rfl) (by decide) (by kernel_rfl) (by decide)).conv id (fun _ => rfl) fun _ h => h.2
theorem rdRows : Rd prog 22 (fun g : List (List Int) => [.ro 1 (rowsII g)]) (fun g => g.length ≤ reachBytes / 24 ∧ ∀ l ∈ g, l.length ≤ reachBytes / 8) :=
  (Rd.slice rdInts underlying22 (s := 1) (b := 24) (by kernel_rfl) (by decide) (by kernel_rfl) (by decide)).conv id (fun _ => rfl) fun g h => by
    have := h.1
    refine ⟨?_, h.2⟩
    show g.length ≤ _
    omega
theorem laid : laidOutB prog = true := by kernel_rfl
end Go.Aw
