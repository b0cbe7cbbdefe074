/- Searching all that can be reached, in plain Lean. -/
import Derived.Test.YteeopipgglngmaaT1
set_option linter.all false
namespace Go.Tar

/-- What stays true while all that can be reached from a place is marked: what waits, and at whose edges the search stands. -/
structure Clo (g : Net) (a : Nat) (seen : List Bool) (q : List Nat) (cur : Option (Nat × Nat)) : Prop where
  len : seen.length = g.length
  snd : ∀ v, seen.getD v false = true → PathP g a v
  lt : ∀ u ∈ q, u < g.length
  qs : ∀ u ∈ q, u = a ∨ seen.getD u false = true
  done : ∀ u, (u = a ∨ seen.getD u false = true) → u ∉ q → (∀ k, cur = some (u, k) → ∀ j, j < k → seen.getD ((nx g u).getD j 0) false = true) ∧ ((∀ k, cur ≠ some (u, k)) → ∀ t ∈ nx g u, seen.getD t false = true)
  cur : ∀ u k, cur = some (u, k) → u < g.length ∧ k ≤ (nx g u).length ∧ (u = a ∨ seen.getD u false = true)

theorem getD_rep (n v : Nat) : (List.replicate n false).getD v false = false := by
  rw [List.getD_eq_getElem?_getD, List.getElem?_replicate]
  split <;> rfl
theorem Clo.init {g : Net} {a : Nat} (ha : a < g.length) : Clo g a (List.replicate g.length false) [a] none := by
  refine ⟨by simp, fun v hv => ?_, by simpa using ha, by simp, fun u hu hq => ?_, fun u k h => by cases h⟩
  · rw [getD_rep] at hv; cases hv
  · rcases hu with rfl | hu
    · simp at hq
    · rw [getD_rep] at hu; cases hu
theorem Clo.pop {g : Net} {a : Nat} {seen : List Bool} {q q' : List Nat} {u : Nat} (h : Clo g a seen q none) (hq : ∀ x, x ∈ q ↔ x = u ∨ x ∈ q') : Clo g a seen q' (some (u, 0)) := by
  have hu : u ∈ q := (hq u).2 (.inl rfl)
  refine ⟨h.len, h.snd, fun x hx => h.lt x ((hq x).2 (.inr hx)), fun x hx => h.qs x ((hq x).2 (.inr hx)), fun x hx hxq => ⟨fun k e j hj => ?_, fun hne => ?_⟩, fun x k e => ?_⟩
  · cases e; omega
  · have hxu : x ≠ u := fun e => hne 0 (by rw [e])
    exact (h.done x hx fun hh => by rcases (hq x).1 hh with e | e; exact hxu e; exact hxq e).2 fun k => by simp
  · cases e
    exact ⟨h.lt u hu, Nat.zero_le _, h.qs u hu⟩
theorem Clo.skip {g : Net} {a : Nat} {seen : List Bool} {q : List Nat} {u k : Nat} (h : Clo g a seen q (some (u, k))) (hk : k < (nx g u).length) (hs : seen.getD ((nx g u).getD k 0) false = true) : Clo g a seen q (some (u, k + 1)) := by
  refine ⟨h.len, h.snd, h.lt, h.qs, fun x hx hxq => ⟨fun k' e j hj => ?_, fun hne => ?_⟩, fun x k' e => ?_⟩
  · cases e
    by_cases ejk : j = k
    · rw [ejk]; exact hs
    · exact (h.done u hx hxq).1 k rfl j (by omega)
  · exact (h.done x hx hxq).2 fun k' e => by
      cases e
      exact hne (k + 1) rfl
  · cases e
    obtain ⟨h1, h2, h3⟩ := h.cur u k rfl
    exact ⟨h1, by omega, h3⟩
theorem nx_lt {g : Net} {i : Nat} {x : Nat} (h : x ∈ nx g i) : i < g.length := by
  rcases Nat.lt_or_ge i g.length with h' | h'
  · exact h'
  · unfold nx at h
    rw [List.getD_eq_getElem?_getD, List.getElem?_eq_none h'] at h
    simp at h
theorem PathP.snoc {g : Net} {a u t : Nat} (h : u = a ∨ PathP g a u) (ht : t ∈ nx g u) : PathP g a t := by
  rcases h with rfl | ⟨c, h1, h2⟩
  · exact ⟨t, ht, .refl _⟩
  · exact ⟨c, h1, h2.trans (.edge ht)⟩
theorem Clo.mark {g : Net} {a : Nat} {seen : List Bool} {q q' : List Nat} {u k : Nat} (h : Clo g a seen q (some (u, k))) (hk : k < (nx g u).length) (ht : (nx g u).getD k 0 < g.length) (hq : ∀ x, x ∈ q' ↔ x ∈ q ∨ x = (nx g u).getD k 0) :
    Clo g a (seen.set ((nx g u).getD k 0) true) q' (some (u, k + 1)) := by
  generalize htt : (nx g u).getD k 0 = t at *
  have hg : ∀ v, (seen.set t true).getD v false = if v = t then true else seen.getD v false := fun v => getD_set (by rw [h.len]; exact ht)
  have hmono : ∀ v, seen.getD v false = true → (seen.set t true).getD v false = true := fun v hv => by rw [hg, hv]; simp
  obtain ⟨c1, c2, c3⟩ := h.cur u k rfl
  have hmem : t ∈ nx g u := by rw [← htt, List.getD_eq_getElem?_getD, List.getElem?_eq_getElem hk]; exact List.getElem_mem hk
  have hold : ∀ x, (seen.set t true).getD x false = true → x ∉ q' → seen.getD x false = true := fun x hx hxq => by
    rw [hg] at hx
    split at hx
    · rename_i e
      exact absurd ((hq x).2 (.inr e)) hxq
    · exact hx
  refine ⟨by simpa using h.len, fun v hv => ?_, fun x hx => ?_, fun x hx => ?_, fun x hx hxq => ⟨fun k' e j hj => ?_, fun hne => ?_⟩, fun x k' e => ?_⟩
  · rw [hg] at hv
    split at hv
    · rename_i e
      subst e
      exact .snoc (c3.imp id (h.snd u)) hmem
    · exact h.snd v hv
  · rcases (hq x).1 hx with hx | rfl
    · exact h.lt x hx
    · exact ht
  · rcases (hq x).1 hx with hx | rfl
    · exact (h.qs x hx).imp id (hmono x)
    · exact .inr (by rw [hg]; simp)
  · cases e
    by_cases ejk : j = k
    · rw [ejk, htt, hg]; simp
    · exact hmono _ ((h.done u (hx.imp id fun hx => hold u hx hxq) fun hh => hxq ((hq u).2 (.inl hh))).1 k rfl j (by omega))
  · intro y hy
    exact hmono y ((h.done x (hx.imp id fun hx => hold x hx hxq) fun hh => hxq ((hq x).2 (.inl hh))).2 (fun k' e => by
      cases e
      exact hne (k + 1) rfl) y hy)
  · cases e
    exact ⟨c1, by omega, c3.imp id (hmono u)⟩
theorem Clo.up {g : Net} {a : Nat} {seen : List Bool} {q : List Nat} {u : Nat} (h : Clo g a seen q (some (u, (nx g u).length))) : Clo g a seen q none := by
  refine ⟨h.len, h.snd, h.lt, h.qs, fun x hx hxq => ⟨fun k' e => (by cases e), fun _ t ht => ?_⟩, fun x k' e => (by cases e)⟩
  by_cases e : u = x
  · subst e
    obtain ⟨j, hj, rfl⟩ := List.mem_iff_getElem.1 ht
    have := (h.done u hx hxq).1 _ rfl j hj
    have e : (nx g u).getD j 0 = (nx g u)[j] := by rw [List.getD_eq_getElem?_getD, List.getElem?_eq_getElem hj]; rfl
    rwa [e] at this
  · exact (h.done x hx hxq).2 (fun k e' => by cases e'; exact e rfl) t ht
theorem Clo.fin {g : Net} {a : Nat} {seen : List Bool} (h : Clo g a seen [] none) (v : Nat) : seen.getD v false = true ↔ PathP g a v := by
  refine ⟨h.snd v, fun hp => ?_⟩
  obtain ⟨c, h1, h2⟩ := hp
  have hc := (h.done a (.inl rfl) (by simp)).2 (fun k => by simp) c h1
  clear h1
  induction h2 with
  | refl => exact hc
  | step he _ ih => exact ih ((h.done _ (.inr hc) (by simp)).2 (fun k => by simp) _ he)

/-- How many places are not marked yet. -/
def unseen (seen : List Bool) : Nat := seen.count false
theorem unseen_set {seen : List Bool} {t : Nat} (ht : t < seen.length) (h : seen.getD t false = false) : unseen (seen.set t true) + 1 = unseen seen := by
  unfold unseen
  rw [List.count_set ht]
  have e : seen[t] = false := by rw [List.getD_eq_getElem?_getD, List.getElem?_eq_getElem ht] at h; exact h
  have : 0 < seen.count false := List.count_pos_iff.2 (e ▸ List.getElem_mem ht)
  simp [e]
  omega
end Go.Tar
