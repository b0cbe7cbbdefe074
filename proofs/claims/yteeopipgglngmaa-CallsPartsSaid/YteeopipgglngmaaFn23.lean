/- For the proofs: the parts, the plain way: what is asked of each place. -/
import Derived.Test.YteeopipgglngmaaFn22
set_option linter.all false
set_option linter.unusedSimpArgs false
set_option linter.unusedVariables false
set_option maxRecDepth 100000
namespace Go.Aw
open Go Go.Proofs.Try Go.Tar

def rowsBB (a : List (List Bool)) : List (List AV) := a.map fun b => [.ro 1 (rowsB b)]
theorem rowsBB_length (a : List (List Bool)) : (rowsBB a).length = a.length := by simp [rowsBB]
theorem rowsBB_frz (a : List (List Bool)) : ∀ row ∈ rowsBB a, refsL row = [] := by
  intro row h
  simp only [rowsBB, List.mem_map] at h
  obtain ⟨x, _, rfl⟩ := h
  rfl
theorem killR_rowsBB (k : Nat) (a : List (List Bool)) : killR k (rowsBB a) = rowsBB a := killR_frz (rowsBB_frz a)
theorem rowsBB_take (a : List (List Bool)) (i : Nat) : (rowsBB a).take i = rowsBB (a.take i) := by simp [rowsBB, List.map_take]
theorem rowsBB_drop (a : List (List Bool)) (i : Nat) : (rowsBB a).drop i = rowsBB (a.drop i) := by simp [rowsBB, List.map_drop]
theorem ixQ_rowsBB {K : AV → Prop} {n : Int} {a : List (List Bool)} : ixQ (none, 1) (.ro 1 (rowsBB a)) n K = Ad (0 ≤ n ∧ n < a.length) (lock (K (.rptr [.ro 1 (rowsB (a.getD n.toNat []))])) .mk) := ixQ_mapL []
noncomputable def reachLs (next : List (List Int)) : List (List Bool) := (List.range next.length).map (reachL next)
theorem reachLs_length (next : List (List Int)) : (reachLs next).length = next.length := by simp [reachLs]
theorem reachLs_getD (next : List (List Int)) (i : Nat) (hi : i < next.length) : (reachLs next).getD i [] = reachL next i := by
  rw [List.getD_eq_getElem?_getD, reachLs, List.getElem?_map, List.getElem?_range hi]
  rfl
def upF (f : Nat → Bool) (i : Nat) : List Nat := (List.range i).filter f
theorem upF_succ (f : Nat → Bool) (i : Nat) : upF f (i + 1) = upF f i ++ if f i then [i] else [] := by
  unfold upF
  rw [List.range_succ, List.filter_append, List.filter_cons, List.filter_nil]
theorem upF_len (f : Nat → Bool) (i : Nat) : (upF f i).length ≤ i := by
  have := List.length_filter_le f (List.range i)
  rwa [List.length_range] at this
noncomputable def inScc (next : List (List Int)) (v i : Nat) : Bool := decide (i = v) || (pathB (natN next) i v && pathB (natN next) v i)
noncomputable def sccF (next : List (List Int)) (v : Nat) : List Nat := upF (inScc next v) next.length
theorem parts_order {next : List (List Int)} (h : validB next = true) : ∃ m post, Dfs (netOf next) (List.range next.length) (List.replicate next.length false) [] m post ∧ post.length = next.length ∧ (∀ v ∈ post, v < next.length) ∧ castLL (outF (sccF next) post) = partsLL next := by
  have hrng := netOf_rng h
  have hl := netOf_length next
  have hp := partsF_parts sorts_canon hrng
  have hs := partsF_sorted (g := netOf next)
  obtain ⟨m, post, rs, h1, h2, h3, h4, h5⟩ := partsF_order sorts_canon hrng
  rw [hl] at h1 h3
  refine ⟨m, post, h1, ?_, fun v hv => (h3 v).1 hv, ?_⟩
  · have := (perm_of_mem h2 (List.nodup_range (n := next.length)) fun v => by rw [h3, List.mem_range]).length_eq
    rwa [List.length_range] at this
  · rw [partsLL, order_eq hp h5 h4 h2 (fun v => by rw [h3, hl]) (sccF next) fun p hpm v hv => ?_]
    refine asc_eq ((List.pairwise_lt_range (n := next.length)).filter _) (hs p hpm) fun k => ?_
    rw [sccF, upF, List.mem_filter, List.mem_range]
    have hin : ∀ k, k < next.length → (inScc next v k = true ↔ k ∈ p) := fun k hk => by
      rw [hp.iff hpm hv (by omega), inScc, Bool.or_eq_true, decide_eq_true_eq, Bool.and_eq_true, pathB_true, pathB_true, net_pathP, net_pathP]
    constructor
    · rintro ⟨hk, hh⟩
      exact (hin k hk).1 hh
    · intro hk
      have := (hp.all k).1 (List.mem_flatten.2 ⟨p, hpm, hk⟩)
      exact ⟨by omega, (hin k (by omega)).2 hk⟩
theorem outF_drop (scc : Nat → List Nat) (post : List Nat) {j : Nat} (hj : j < post.length) : outF scc (post.drop j) = (if (scc (post.getD j 0)).all fun k => !(post.drop (j + 1)).contains k then [scc (post.getD j 0)] else []) ++ outF scc (post.drop (j + 1)) := by
  rw [drop_cons (d := 0) hj]
  rfl
theorem castL_contains (l : List Nat) (i : Nat) : (castL l).contains (i : Int) = l.contains i := by
  rw [List.contains_eq_mem, List.contains_eq_mem]
  exact decide_eq_decide.2 (by rw [mem_castL]; simp)
end Go.Aw
