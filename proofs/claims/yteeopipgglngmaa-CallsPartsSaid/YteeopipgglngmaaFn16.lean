/- For the proofs: what the parts are, as the program's lists have them. -/
import Derived.Test.YteeopipgglngmaaFn15
set_option linter.all false
set_option linter.unusedSimpArgs false
set_option linter.unusedVariables false
namespace Go.Tar
open Go

theorem Path.of_sub {g g' : Net} (h : ∀ i k, k ∈ nx g i → k ∈ nx g' i) {a b : Nat} (hp : Path g a b) : Path g' a b := by
  induction hp with
  | refl => exact .refl _
  | step he _ ih => exact .step (h _ _ he) ih
theorem PathP.of_sub {g g' : Net} (h : ∀ i k, k ∈ nx g i → k ∈ nx g' i) {a b : Nat} (hp : PathP g a b) : PathP g' a b := by
  obtain ⟨c, h1, h2⟩ := hp
  exact ⟨c, h _ _ h1, h2.of_sub h⟩

/-- Each part is a list put in order. -/
def Put (sortf : List Nat → List Nat) (s : S) : Prop := ∀ p ∈ s.parts, ∃ l, p = sortf l
theorem up_parts (s : S) (i : Nat) : (s.up i).parts = s.parts := by
  unfold S.up
  split <;> rfl
theorem Put.next {sortf : List Nat → List Nat} {g : Net} {s : S} (h : Put sortf s) : Put sortf (s.next sortf g) := by
  unfold S.next
  split
  · rename_i i k _
    unfold S.step
    split
    · unfold S.leave
      intro p hp
      dsimp only at hp
      split at hp
      · unfold S.cut at hp
        dsimp only at hp
        rw [up_parts, List.mem_append] at hp
        rcases hp with hp | hp
        · exact h p hp
        · exact ⟨_, List.mem_singleton.1 hp⟩
      · rw [up_parts] at hp
        exact h p hp
    · dsimp only
      split
      · exact h
      · split <;> exact h
  · exact h
theorem Put.iter {sortf : List Nat → List Nat} {g : Net} : ∀ (n : Nat) {s : S}, Put sortf s → Put sortf (iter sortf g n s)
  | 0, s, h => h
  | n + 1, s, h => by
    unfold Tar.iter
    split
    · exact h
    · exact Put.iter n (s := s.next sortf g) h.next
theorem upto_put (sortf : List Nat → List Nat) (g : Net) : ∀ k, Put sortf (upto sortf g k)
  | 0 => fun p hp => by simp [upto, init] at hp
  | k + 1 => by
    rw [upto_succ]
    unfold one
    split
    · exact Put.iter _ (upto_put sortf g k)
    · exact upto_put sortf g k
theorem partsF_sorted {g : Net} : ∀ p ∈ partsF canonN g, p.Pairwise (· < ·) := fun p hp => by
  obtain ⟨l, rfl⟩ := upto_put canonN g _ p hp
  exact (canonN_spec l).1
theorem Parts.count {g : Net} {l : List (List Nat)} (h : Parts g l) : l.flatten.length = g.length := by
  have := (perm_of_mem h.nd (List.nodup_range (n := g.length)) fun v => by rw [h.all, List.mem_range]).length_eq
  rwa [List.length_range] at this
end Go.Tar
namespace Go.Aw
open Go Go.Proofs.Try Go.Tar

theorem net_nx (next : List (List Int)) (i k : Nat) : k ∈ nx (netOf next) i ↔ k ∈ nx (natN next) i := by
  rw [natN_nx]
  unfold nx netOf
  rw [List.getD_eq_getElem?_getD, List.getD_eq_getElem?_getD, List.getElem?_map]
  cases h : next[i]? with
  | none => simp [natL]
  | some l => simp [(canonN_spec (natL l)).2]
theorem net_pathP (next : List (List Int)) (a b : Nat) : PathP (netOf next) a b ↔ PathP (natN next) a b := ⟨fun h => h.of_sub fun i k hk => (net_nx next i k).1 hk, fun h => h.of_sub fun i k hk => (net_nx next i k).2 hk⟩
theorem netOf_length (next : List (List Int)) : (netOf next).length = next.length := by simp [netOf]

/-- The parts of a list of edges, as whole numbers. -/
structure PartsI (next parts : List (List Int)) : Prop where
  nd : parts.flatten.Nodup
  rng : ∀ l ∈ parts, ∀ v ∈ l, okK next.length v
  all : ∀ v, okK next.length v → v ∈ parts.flatten
  ord : ∀ (j : Nat) (p : List Int), parts[j]? = some p → ∀ v ∈ p, ∀ t ∈ next.getD v.toNat [], ∃ (j' : Nat) (p' : List Int), j' ≤ j ∧ parts[j']? = some p' ∧ t ∈ p'
  conn : ∀ p ∈ parts, ∀ u ∈ p, ∀ v ∈ p, u ≠ v → PathP (natN next) u.toNat v.toNat
  ne : ∀ p ∈ parts, p ≠ []
  asc : ∀ p ∈ parts, p.Pairwise (· < ·)
  count : parts.flatten.length = next.length

theorem mem_castL {l : List Nat} {v : Int} : v ∈ castL l ↔ 0 ≤ v ∧ v.toNat ∈ l := by
  simp only [castL, List.mem_map]
  constructor
  · rintro ⟨n, hn, rfl⟩
    exact ⟨by omega, by simpa using hn⟩
  · rintro ⟨h, hm⟩
    exact ⟨v.toNat, hm, by omega⟩
theorem castLL_flatten (g : List (List Nat)) : (castLL g).flatten = castL g.flatten := by
  simp only [castLL, castL, List.map_flatten]
  congr 1
theorem partsLL_parts {next : List (List Int)} (h : validB next = true) : PartsI next (partsLL next) := by
  have hp := partsF_parts sorts_canon (netOf_rng h)
  have hs := partsF_sorted (g := netOf next)
  have hl := netOf_length next
  unfold partsLL
  generalize partsF canonN (netOf next) = P at *
  have hget : ∀ (j : Nat) (p : List Int), (castLL P)[j]? = some p → ∃ q, P[j]? = some q ∧ p = castL q := fun j p hj => by
    rw [castLL, List.getElem?_map, Option.map_eq_some_iff] at hj
    obtain ⟨q, h1, h2⟩ := hj
    exact ⟨q, h1, h2.symm⟩
  have hmem : ∀ p ∈ castLL P, ∃ q ∈ P, p = castL q := fun p hm => by
    simp only [castLL, List.mem_map] at hm
    obtain ⟨q, h1, h2⟩ := hm
    exact ⟨q, h1, h2.symm⟩
  refine ⟨?_, fun l hm v hv => ?_, fun v hv => ?_, fun j p hj v hv t ht => ?_, fun p hm u hu v hv hne => ?_, fun p hm => ?_, fun p hm => ?_, ?_⟩
  · rw [castLL_flatten, castL]
    exact List.pairwise_map.2 (hp.nd.imp fun h e => h (by omega))
  · obtain ⟨q, hq, rfl⟩ := hmem l hm
    have h1 := mem_castL.1 hv
    have := (hp.all v.toNat).1 (List.mem_flatten.2 ⟨q, hq, h1.2⟩)
    unfold okK
    omega
  · unfold okK at hv
    rw [castLL_flatten, mem_castL]
    exact ⟨hv.1, (hp.all _).2 (by omega)⟩
  · obtain ⟨q, hq, rfl⟩ := hget j p hj
    have h1 := mem_castL.1 hv
    have hvn := (hp.all v.toNat).1 (List.mem_flatten.2 ⟨q, List.mem_of_getElem? hq, h1.2⟩)
    have h0 := validB_iff.1 h _ (getD_mem (d := []) (show v.toNat < next.length by omega)) t ht
    unfold okK at h0
    have htn : t.toNat ∈ nx (netOf next) v.toNat := by
      rw [net_nx, natN_nx]
      exact List.mem_map.2 ⟨t, ht, rfl⟩
    obtain ⟨j', p', hle, hj', hm'⟩ := hp.ord j q hq v.toNat h1.2 t.toNat htn
    refine ⟨j', castL p', hle, by rw [castLL, List.getElem?_map, hj']; rfl, mem_castL.2 ⟨h0.1, hm'⟩⟩
  · obtain ⟨q, hq, rfl⟩ := hmem p hm
    have h1 := mem_castL.1 hu
    have h2 := mem_castL.1 hv
    rw [← net_pathP]
    exact ((hp.conn q hq).2 _ _ h1.2 h2.2).pathP (by omega)
  · obtain ⟨q, hq, rfl⟩ := hmem p hm
    have := (hp.conn q hq).1
    intro e
    exact this (List.map_eq_nil_iff.1 e)
  · obtain ⟨q, hq, rfl⟩ := hmem p hm
    exact List.pairwise_map.2 ((hs q hq).imp fun h => by omega)
  · rw [castLL_flatten, castL_length, hp.count, hl]

/-- Which part each place lies in, as far as it is written. -/
structure AtI (ps : List (List Int)) (n : Nat) (t : List Int) : Prop where
  len : t.length = n
  at_ : ∀ (i : Nat) (p : List Int), ps[i]? = some p → ∀ v ∈ p, t.getD v.toNat 0 = (i : Int) + 1
  zero : ∀ v, okK n v → v ∉ ps.flatten → t.getD v.toNat 0 = 0
theorem AtI.init (n : Nat) : AtI [] n (List.replicate n 0) := ⟨by simp, by simp, fun v _ _ => by
  rw [List.getD_eq_getElem?_getD, List.getElem?_replicate]
  split <;> rfl⟩
theorem AtI.start {ps : List (List Int)} {n : Nat} {t : List Int} (h : AtI ps n t) : AtI (ps ++ [[]]) n t := by
  refine ⟨h.len, fun i p hi v hv => ?_, fun v hv hn => h.zero v hv (by simpa using hn)⟩
  rw [List.getElem?_append] at hi
  split at hi
  · exact h.at_ i p hi v hv
  · have := (List.mem_singleton.1 (List.mem_of_getElem? hi))
    subst this
    simp at hv
theorem AtI.set {ps : List (List Int)} {p : List Int} {n : Nat} {t : List Int} (h : AtI (ps ++ [p]) n t) {v : Int} (hv : okK n v) (hn : v ∉ (ps ++ [p]).flatten) (hpos : ∀ l ∈ ps ++ [p], ∀ x ∈ l, okK n x) : AtI (ps ++ [p ++ [v]]) n (t.set v.toNat ((ps.length : Int) + 1)) := by
  have hlen := h.len
  unfold okK at hv
  have hget : ∀ x, (t.set v.toNat ((ps.length : Int) + 1)).getD x 0 = if x = v.toNat then (ps.length : Int) + 1 else t.getD x 0 := fun x => getD_set (by omega)
  have hother : ∀ x ∈ (ps ++ [p]).flatten, x.toNat ≠ v.toNat := fun x hx e => by
    obtain ⟨l, hl, hxl⟩ := List.mem_flatten.1 hx
    have := hpos l hl x hxl
    unfold okK at this
    have : x = v := by omega
    exact hn (this ▸ hx)
  refine ⟨by simpa using h.len, fun i q hi x hx => ?_, fun x hx hxn => ?_⟩
  · rw [List.getElem?_append] at hi
    split at hi
    · rename_i hlt
      have hq : (ps ++ [p])[i]? = some q := by rw [List.getElem?_append_left hlt]; exact hi
      rw [hget, if_neg (hother x (List.mem_flatten.2 ⟨q, List.mem_of_getElem? hq, hx⟩))]
      exact h.at_ i q hq x hx
    · rename_i hge
      have hi0 : i = ps.length := by
        have := (List.getElem?_eq_some_iff.1 hi).1
        simp at this
        omega
      subst hi0
      simp at hi
      subst hi
      rcases List.mem_append.1 hx with hx | hx
      · have hq : (ps ++ [p])[ps.length]? = some p := by simp
        rw [hget, if_neg (hother x (List.mem_flatten.2 ⟨p, by simp, hx⟩))]
        exact h.at_ _ p hq x hx
      · rw [List.mem_singleton.1 hx, hget, if_pos rfl]
  · have hxv : x ≠ v := fun e => hxn (by rw [e]; simp)
    unfold okK at hx
    rw [hget, if_neg (by omega)]
    refine h.zero x (by unfold okK; exact hx) fun hh => hxn ?_
    simp only [List.flatten_append, List.flatten_cons, List.flatten_nil, List.append_nil, List.mem_append] at hh ⊢
    rcases hh with hh | hh
    · exact .inl hh
    · exact .inr (.inl hh)
end Go.Aw
