/- For the proofs: one block of one's own, frozen for good. -/
import Derived.Test.YteeopipgglngmaaA4
set_option linter.all false
set_option linter.unusedVariables false
namespace Go.Aw
open Go
section
variable {P : Program} {G : Glob} {N : Nat}

theorem onlyD_get {d id : Nat} {b b' : Blk} (h : (List.replicate d (none : Option Blk) ++ [some b])[id]? = some (some b')) : id = d ∧ b' = b := by
  rw [List.getElem?_append] at h
  split at h
  · rw [List.getElem?_replicate] at h
    split at h <;> cases h
  · rename_i hge
    have := (List.getElem?_eq_some_iff.1 h).1
    simp at this hge
    have e : id = d := by omega
    subst e
    simp at h
    exact ⟨rfl, h.symm⟩

/-- One block is frozen; who held it sees it so. -/
theorem Imp.frz1 (d : Nat) {b : Blk} {T : Nat → Option AV} {H : List (Option Blk)} {M M' : List Nat} {l : List (Nat × AV)} (hb : H[d]? = some (some b))
    (hT : ∀ p ∈ l, ∃ c, T p.1 = some c ∧ ((c = p.2 ∧ d ∉ refs c) ∨ View (List.replicate d none ++ [some b]) c p.2)) (hrow : ∀ id b', H[id]? = some (some b') → id ≠ d → ∀ row ∈ b'.rows, d ∉ refsL row)
    (hM : ∀ id, id ∈ M → id ∈ M') (hd : d ∈ M') : Imp G N ⟨T, H, M⟩ ⟨tab l, H.set d none, M'⟩ := fun ι F a w hr => by
  have hsub : ∀ g, F g → F g ∨ ∃ x, ι d = some (g, x) := fun g hg => .inl hg
  have hset : ∀ (id : Nat) (b' : Blk), (H.set d none)[id]? = some (some b') → id ≠ d ∧ H[id]? = some (some b') := fun id b' h => by
    rw [List.getElem?_set] at h
    split at h
    · split at h <;> cases h
    · rename_i hne
      exact ⟨Ne.symm hne, h⟩
  have hren : ∀ (c : AV) (x : Value), d ∉ refs c → VR w ι F c x → VR w (fun id => if id = d then none else ι id) (fun g => F g ∨ ∃ x, ι d = some (g, x)) c x := fun c x hc hx =>
    (hx.ren (ι' := fun id => if id = d then none else ι id) fun id hid => if_neg fun e : id = d => hc (e ▸ hid)).mono hsub (fun _ _ => rfl) (fun _ _ h => h) fun _ _ h => h
  have hrd : RelH w ι F (List.replicate d none ++ [some b]) := by
    refine ⟨fun id b' h => ?_, fun id id' b' b'' g x g' x' h h' _ _ hne => ?_, fun id b' g x h => ?_, hr.h.fz⟩
    · obtain ⟨rfl, rfl⟩ := onlyD_get h
      exact hr.h.blk _ _ hb
    · exact absurd ((onlyD_get h).1.trans (onlyD_get h').1.symm) hne
    · obtain ⟨rfl, rfl⟩ := onlyD_get h
      exact hr.h.apart _ _ g x hb
  refine ⟨fun id => if id = d then none else ι id, fun g => F g ∨ ∃ x, ι d = some (g, x), ⟨fun t v hv => ?_, ⟨⟨fun id b' h => ?_, fun id id' b' b'' g x g' x' h h' hι hι' hne => ?_, fun id b' g x h hι => ?_, fun g hg => hg.elim (hr.h.fz g) fun ⟨x, hx⟩ => fp_lt hr.h.toRelH ⟨d, b, x, hb, hx⟩⟩, fun id x hx => ?_⟩, hr.g.le hsub, hr.n, hr.d⟩,
    ⟨⟨Nat.le_refl _, fun _ _ _ => rfl, fun _ _ h => h, rfl, rfl, rfl, hsub, fun g hg => hg.elim .inl fun ⟨x, hx⟩ => .inr (.inl ⟨d, b, x, hb, hx⟩), fun g ⟨id, b', x, h1, h2⟩ => ?_⟩, fun c x hc hx => ?_, hM⟩⟩
  · obtain ⟨p, hp, rfl, rfl⟩ := tab_first hv
    obtain ⟨c, hc, hw⟩ := hT p hp
    obtain ⟨u, hu, hur⟩ := hr.t _ c hc
    refine ⟨u, hu, ?_⟩
    rcases hw with ⟨rfl, hnd⟩ | hw
    · exact hren _ _ hnd hur
    · refine .fr ((hw.sound hrd u hur).mono (fun g hg => hg.elim .inl fun ⟨id, b', x, h1, h2⟩ => ?_) fun _ _ => rfl)
      obtain ⟨rfl, rfl⟩ := onlyD_get h1
      exact .inr ⟨x, h2⟩
  · obtain ⟨hne, h0⟩ := hset id b' h
    obtain ⟨h1, h2, h3⟩ := hr.h.blk id b' h0
    refine ⟨h1, fun hι => h2 (by simpa [hne] using hι), fun g base hι => ?_⟩
    obtain ⟨cs, e, vals, k1, k2, k3, k4⟩ := h3 g base (by simpa [hne] using hι)
    exact ⟨cs, e, vals, k1, k2, k3, fun i row j c hr1 hc => hren c _ (fun hh => hrow id b' h0 hne row (List.mem_of_getElem? hr1) (refsL_mem hc hh)) (k4 i row j c hr1 hc)⟩
  · obtain ⟨n1, h1⟩ := hset id b' h
    obtain ⟨n2, h2⟩ := hset id' b'' h'
    exact hr.h.inj id id' b' b'' g x g' x' h1 h2 (by simpa [n1] using hι) (by simpa [n2] using hι') hne
  · obtain ⟨n1, h1⟩ := hset id b' h
    have h2 : ι id = some (g, x) := by simpa [n1] using hι
    rintro (hF | ⟨y, hy⟩)
    · exact hr.h.apart id b' g x h1 h2 hF
    · exact hr.h.inj id d b' b g x g y h1 hb h2 hy n1 rfl
  · split at hx
    · cases hx
    · rename_i hne
      obtain ⟨b', hb'⟩ := hr.h.dom id x hx
      exact ⟨b', by rw [List.getElem?_set, if_neg (Ne.symm hne)]; exact hb'⟩
  · obtain ⟨n1, h3⟩ := hset id b' h1
    exact .inl ⟨id, b', x, h3, by simpa [n1] using h2⟩
  · exact hren c x (fun hh => hc d hh hd) hx
end
end Go.Aw
