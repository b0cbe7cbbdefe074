/- For the proofs: what is not wide is small; which function calls itself. -/
import Derived.Test.YteeopipgglngmaaFn12
set_option linter.all false
set_option linter.unusedSimpArgs false
set_option linter.unusedVariables false
set_option maxRecDepth 100000
namespace Go.Aw
open Go Go.Proofs.Try Go.Tar

theorem wideIn_le : ∀ {l : List Block} {n : Int}, n ≤ wideIn 3600 n l
  | [], n => Int.le_refl _
  | b :: l, n => by
    unfold wideIn
    split
    · have := wideIn_le (l := l) (n := n + b.ins.length); omega
    · exact Int.le_refl _
theorem callsB_len (n : Nat) (b : Block) : (callsB n b).length ≤ b.ins.length := by
  unfold callsB
  induction b.ins with
  | nil => simp
  | cons x l ih =>
    rw [List.flatMap_cons, List.length_append, List.length_cons]
    have : (refsIn n x).length ≤ 1 := by unfold refsIn; split <;> simp
    omega
theorem wideIn_calls (m : Nat) : ∀ {l : List Block} {n : Int}, wideIn 3600 n l ≤ 3600 → n + (l.flatMap (callsB m)).length ≤ 3600
  | [], n, h => by simpa [wideIn] using h
  | b :: l, n, h => by
    unfold wideIn at h
    split at h
    · have := wideIn_calls m h
      have := callsB_len m b
      rw [List.flatMap_cons, List.length_append]
      push_cast
      omega
    · omega
theorem wideOut_le : ∀ {p : List Graph} {n : Int}, n ≤ wideOut 3600 n p
  | [], n => Int.le_refl _
  | g :: p, n => by
    unfold wideOut
    split
    · have := wideOut_le (p := p) (n := wideIn 3600 (n + g.blocks.length) g.blocks)
      have := wideIn_le (l := g.blocks) (n := n + g.blocks.length)
      omega
    · exact Int.le_refl _
theorem wideOut_calls (m : Nat) : ∀ {p : List Graph} {n : Int}, 0 ≤ n → wideOut 3600 n p ≤ 3600 → ∀ g ∈ p, (callsG m g).length ≤ 3600
  | [], n, _, h, g, hg => by simp at hg
  | g' :: p, n, hn, h, g, hg => by
    unfold wideOut at h
    split at h
    · have h1 := wideOut_le (p := p) (n := wideIn 3600 (n + g'.blocks.length) g'.blocks)
      have h2 := wideIn_le (l := g'.blocks) (n := n + g'.blocks.length)
      rcases List.mem_cons.1 hg with rfl | hg
      · have := wideIn_calls m (Int.le_trans h1 h)
        unfold callsG
        omega
      · exact wideOut_calls m (by omega) h g hg
    · omega
theorem narrow {p : List Graph} (h : wideF p = false) : p.length ≤ 120 ∧ ∀ g ∈ p, (callsG p.length g).length ≤ 3600 := by
  unfold wideF at h
  rw [Bool.or_eq_false_iff] at h
  have h1 := of_decide_eq_false h.1
  have h2 := of_decide_eq_false h.2
  exact ⟨by omega, wideOut_calls p.length (n := (p.length : Int)) (by omega) (by omega)⟩

theorem rIn_other {next : List (List Int)} {l0 : List Int} {v : Int} (hv : 0 ≤ v) : ∀ {l : List Int} {out : List Bool}, v ∉ l → (∀ x ∈ l, 0 ≤ x) → (l.foldl (fun o i => o.set i.toNat (rv next l0 i)) out).getD v.toNat false = out.getD v.toNat false
  | [], out, _, _ => rfl
  | a :: l, out, h, hp => by
    simp only [List.mem_cons, not_or] at h
    rw [List.foldl_cons, rIn_other hv h.2 fun x hx => hp x (List.mem_cons_of_mem _ hx), List.getD_eq_getElem?_getD, List.getElem?_set_ne, ← List.getD_eq_getElem?_getD]
    have := hp a (by simp)
    intro e
    exact h.1 (by omega)
theorem rIn_at {next : List (List Int)} {l0 : List Int} {v : Int} (hv : 0 ≤ v) : ∀ {l : List Int} {out : List Bool}, v ∈ l → (∀ x ∈ l, 0 ≤ x) → v.toNat < out.length → (l.foldl (fun o i => o.set i.toNat (rv next l0 i)) out).getD v.toNat false = rv next l0 v
  | [], out, h, _, _ => by simp at h
  | a :: l, out, h, hp, ho => by
    rw [List.foldl_cons]
    by_cases hin : v ∈ l
    · exact rIn_at hv hin (fun x hx => hp x (List.mem_cons_of_mem _ hx)) (by simpa using ho)
    · obtain rfl : v = a := by rcases List.mem_cons.1 h with h | h; exact h; exact absurd h hin
      rw [rIn_other hv hin fun x hx => hp x (List.mem_cons_of_mem _ hx), List.getD_eq_getElem?_getD, List.getElem?_set_self ho]
      rfl
theorem rOut_other {next : List (List Int)} {v : Int} (hv : 0 ≤ v) : ∀ {ps : List (List Int)} {out : List Bool}, v ∉ ps.flatten → (∀ l ∈ ps, ∀ x ∈ l, 0 ≤ x) → (ps.foldl (rOne next) out).getD v.toNat false = out.getD v.toNat false
  | [], out, _, _ => rfl
  | l :: ps, out, h, hp => by
    rw [List.flatten_cons, List.mem_append, not_or] at h
    rw [List.foldl_cons, rOut_other hv h.2 fun l hl => hp l (List.mem_cons_of_mem _ hl)]
    exact rIn_other hv h.1 (hp l (by simp))
theorem rOut_at {next : List (List Int)} {v : Int} (hv : 0 ≤ v) : ∀ {ps : List (List Int)} {out : List Bool} {l : List Int}, l ∈ ps → v ∈ l → ps.flatten.Nodup → (∀ l ∈ ps, ∀ x ∈ l, 0 ≤ x) → v.toNat < out.length → (ps.foldl (rOne next) out).getD v.toNat false = rv next l v
  | [], out, l, h, _, _, _, _ => by simp at h
  | l' :: ps, out, l, h, hl, nd, hp, ho => by
    rw [List.flatten_cons, List.nodup_append] at nd
    rw [List.foldl_cons]
    by_cases hin : v ∈ ps.flatten
    · rcases List.mem_cons.1 h with rfl | h
      · exact absurd rfl (nd.2.2 v hl v hin)
      · exact rOut_at hv h hl nd.2.1 (fun l hl => hp l (List.mem_cons_of_mem _ hl)) (by rw [rOne, rIn_length]; exact ho)
    · rw [rOut_other hv hin fun l hl => hp l (List.mem_cons_of_mem _ hl)]
      obtain rfl : l = l' := by
        rcases List.mem_cons.1 h with h | h
        · exact h
        · exact absurd (List.mem_flatten.2 ⟨l, h, hl⟩) hin
      exact rIn_at hv hl (hp l (by simp)) ho
theorem partsLL_nodup {next : List (List Int)} (h : validB next = true) : (partsLL next).flatten.Nodup := by
  have h1 := (partsF_ok sorts_canon (netOf_rng h)).1
  have e : (partsLL next).flatten = castL (partsF canonN (netOf next)).flatten := by
    simp only [partsLL, castLL, castL, List.map_flatten]
    congr 1
  rw [e, castL]
  exact List.pairwise_map.2 (h1.imp fun h e => h (by omega))
theorem round_at (p : List Graph) {l : List Int} {v : Int} (hl : l ∈ partsLL (calledF p)) (hv : v ∈ l) : (roundF p).getD v.toNat false = rv (calledF p) l v := by
  have hval := called_valid p
  have hpm := parts_mem hval
  have h0 := hpm l hl v hv
  unfold okK at h0
  rw [called_length] at h0
  exact rOut_at h0.1 hl hv (partsLL_nodup hval) (fun l hl x hx => (hpm l hl x hx).1) (by rw [List.length_replicate]; omega)
theorem roundF_length (p : List Graph) : (roundF p).length = p.length := by
  unfold roundF
  rw [rOut_length, List.length_replicate]
theorem has_take {l : List Int} {v d : Int} {k : Nat} (h : k < l.length) : (l.take (k + 1)).contains v = ((l.take k).contains v || decide (l.getD k d = v)) := by
  rw [take_succ l d h]
  rw [List.contains_eq_mem, List.contains_eq_mem, ← Bool.decide_or]
  exact decide_eq_decide.2 (by rw [List.mem_append, List.mem_singleton]; exact or_congr_right eq_comm)
end Go.Aw
