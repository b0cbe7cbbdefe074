/- The search for parts, in plain Lean: what each step does, and what stays true. -/
import Derived.Lib.SlicesCompact
set_option linter.all false
namespace Go.Tar

abbrev Net := List (List Nat)
def nx (g : Net) (i : Nat) : List Nat := g.getD i []

structure S where
  when_ : List Nat
  low : List Nat
  row : List Nat
  on : List Bool
  way : List (Nat × Nat)
  parts : List (List Nat)
  n : Nat
  post : List Nat

def S.meet (s : S) (i : Nat) : S := { s with n := s.n + 1, when_ := s.when_.set i (s.n + 1), low := s.low.set i (s.n + 1), on := s.on.set i true, row := s.row ++ [i], way := s.way ++ [(i, 0)] }

/-- Off: a list of places made false. -/
def offs (on : List Bool) (l : List Nat) : List Bool := l.foldl (fun o k => o.set k false) on

def S.up (s : S) (i : Nat) : S :=
  match s.way.dropLast.getLast? with
  | some (u, _) => { s with way := s.way.dropLast, low := s.low.set u (min (s.low.getD u 0) (s.low.getD i 0)) }
  | none => { s with way := s.way.dropLast }

def S.cut (sortf : List Nat → List Nat) (s : S) (i : Nat) : S :=
  let at_ := s.row.idxOf i
  let part := sortf (s.row.drop at_)
  { s with row := s.row.take at_, on := offs s.on part, parts := s.parts ++ [part] }

def S.leave (sortf : List Nat → List Nat) (s : S) (i : Nat) : S :=
  { (if (s.up i).low.getD i 0 = (s.up i).when_.getD i 0 then (s.up i).cut sortf i else s.up i) with post := s.post ++ [i] }

def S.step (sortf : List Nat → List Nat) (g : Net) (s : S) (i k : Nat) : S :=
  if k = (nx g i).length then s.leave sortf i else
    let to := (nx g i).getD k 0
    let s1 : S := { s with way := s.way.dropLast ++ [(i, k + 1)] }
    if s1.when_.getD to 0 = 0 then s1.meet to
    else if s1.on.getD to false = true then { s1 with low := s1.low.set i (min (s1.low.getD i 0) (s1.when_.getD to 0)) }
    else s1

def S.next (sortf : List Nat → List Nat) (g : Net) (s : S) : S := match s.way.getLast? with
  | some (i, k) => s.step sortf g i k
  | none => s

/-- What stays true at each step. -/
structure Inv (g : Net) (s : S) : Prop where
  rng : ∀ i k, k ∈ nx g i → k < g.length
  hw : s.when_.length = g.length
  hl : s.low.length = g.length
  ho : s.on.length = g.length
  lt : ∀ v, v ∈ s.row ++ s.parts.flatten → v < g.length
  nd : (s.row ++ s.parts.flatten).Nodup
  on : ∀ v, v < g.length → (s.on.getD v false = true ↔ v ∈ s.row)
  met : ∀ v, v < g.length → (s.when_.getD v 0 ≠ 0 ↔ v ∈ s.row ++ s.parts.flatten)
  sub : (s.way.map (·.1)).Sublist s.row
  k : ∀ p, p ∈ s.way → p.2 ≤ (nx g p.1).length
  hn : s.n = (s.row ++ s.parts.flatten).length
  ne : ∀ p, p ∈ s.parts → p ≠ []

theorem Inv.post {g : Net} {s : S} (h : Inv g s) (l : List Nat) : Inv g { s with post := l } := ⟨h.rng, h.hw, h.hl, h.ho, h.lt, h.nd, h.on, h.met, h.sub, h.k, h.hn, h.ne⟩

theorem nodup_bound : ∀ {n : Nat} {l : List Nat}, l.Nodup → (∀ v ∈ l, v < n) → l.length ≤ n
  | 0, l, _, hl => by
    cases l with
    | nil => simp
    | cons a l => exact absurd (hl a (by simp)) (by omega)
  | n + 1, l, h, hl => by
    have h1 := nodup_bound (n := n) (l := l.erase n) (h.erase n) fun v hv => by
      have := (h.mem_erase_iff).1 hv
      have := hl v this.2
      omega
    rw [List.length_erase] at h1
    split at h1 <;> omega

theorem flat_len : ∀ {l : List (List Nat)}, (∀ p, p ∈ l → p ≠ []) → l.length ≤ l.flatten.length
  | [], _ => by simp
  | a :: l, h => by
    have h1 := flat_len (l := l) fun p hp => h p (List.mem_cons_of_mem _ hp)
    have h2 := List.length_pos_iff.2 (h a (List.mem_cons_self ..))
    simp only [List.length_cons, List.flatten_cons, List.length_append]
    omega
theorem Inv.n_le {g : Net} {s : S} (h : Inv g s) : (s.row ++ s.parts.flatten).length ≤ g.length := nodup_bound h.nd h.lt

theorem getD_set {α : Type} {l : List α} {i j : Nat} {x d : α} (hi : i < l.length) : (l.set i x).getD j d = if j = i then x else l.getD j d := by
  simp only [List.getD_eq_getElem?_getD, List.getElem?_set]
  by_cases h : i = j
  · subst h; simp [hi]
  · simp [h, Ne.symm h]

theorem Inv.meet {g : Net} {s : S} {i : Nat} (h : Inv g s) (hi : i < g.length) (h0 : s.when_.getD i 0 = 0) : Inv g (s.meet i) := by
  have hnot : i ∉ s.row ++ s.parts.flatten := fun hm => (h.met i hi).2 hm h0
  have hp : ((s.row ++ [i]) ++ s.parts.flatten).Perm (i :: (s.row ++ s.parts.flatten)) := by
    simp [List.perm_middle]
  refine ⟨h.rng, by simp [S.meet, h.hw], by simp [S.meet, h.hl], by simp [S.meet, h.ho], fun v hv => ?_, ?_, fun v hv => ?_, fun v hv => ?_, ?_, fun p hp => ?_, ?_, h.ne⟩
  · have := hp.mem_iff.1 hv
    rcases List.mem_cons.1 this with rfl | h1
    · exact hi
    · exact h.lt v h1
  · exact hp.nodup_iff.2 (List.nodup_cons.2 ⟨hnot, h.nd⟩)
  · simp only [S.meet]
    rw [getD_set (by rw [h.ho]; exact hi)]
    by_cases hvi : v = i
    · simp [hvi]
    · rw [if_neg hvi, h.on v hv]; simp [hvi]
  · simp only [S.meet]
    rw [getD_set (by rw [h.hw]; exact hi), hp.mem_iff, List.mem_cons]
    by_cases hvi : v = i
    · simp [hvi]
    · rw [if_neg hvi, h.met v hv]
      simp [hvi]
  · simp only [S.meet, List.map_append, List.map_cons, List.map_nil]
    exact h.sub.append (List.Sublist.refl _)
  · simp only [S.meet, List.mem_append, List.mem_singleton] at hp
    rcases hp with hp | rfl
    · exact h.k p hp
    · simp
  · simp only [S.meet]
    rw [hp.length_eq, h.hn]
    simp

theorem getLast_split {α : Type} {l : List α} {x : α} (h : l.getLast? = some x) : l = l.dropLast ++ [x] := by
  rw [List.getLast?_eq_some_iff] at h
  obtain ⟨ys, rfl⟩ := h
  simp

/-- The top's edge goes on: nothing else turns. -/
theorem Inv.bump {g : Net} {s : S} {i k : Nat} (h : Inv g s) (ht : s.way.getLast? = some (i, k)) (hk : k ≠ (nx g i).length) {low : List Nat} (hlow : low.length = g.length) : Inv g { s with way := s.way.dropLast ++ [(i, k + 1)], low := low } := by
  have hs := getLast_split ht
  refine ⟨h.rng, h.hw, hlow, h.ho, h.lt, h.nd, h.on, h.met, ?_, fun p hp => ?_, h.hn, h.ne⟩
  · have := h.sub
    rw [hs] at this
    simpa using this
  · simp only [List.mem_append, List.mem_singleton] at hp
    rcases hp with hp | rfl
    · exact h.k p (by rw [hs]; simp [hp])
    · have := h.k (i, k) (by rw [hs]; simp)
      simp only at this ⊢
      omega

theorem Inv.pop {g : Net} {s : S} (h : Inv g s) {low : List Nat} (hlow : low.length = g.length) : Inv g { s with way := s.way.dropLast, low := low } := by
  refine ⟨h.rng, h.hw, hlow, h.ho, h.lt, h.nd, h.on, h.met, ?_, fun p hp => h.k p (List.dropLast_subset _ hp), h.hn, h.ne⟩
  exact ((List.dropLast_sublist s.way).map _).trans h.sub

theorem S.up_eq (s : S) (i : Nat) : ∃ low, low.length = s.low.length ∧ s.up i = { s with way := s.way.dropLast, low := low } := by
  unfold S.up
  split
  · exact ⟨_, by simp, rfl⟩
  · exact ⟨s.low, rfl, rfl⟩

theorem Inv.up {g : Net} {s : S} (h : Inv g s) (i : Nat) : Inv g (s.up i) := by
  obtain ⟨low, hl, he⟩ := s.up_eq i
  rw [he]
  exact h.pop (by rw [hl, h.hl])

theorem offs_length (on : List Bool) (l : List Nat) : (offs on l).length = on.length := by
  unfold offs
  induction l generalizing on with
  | nil => rfl
  | cons a l ih => simp [ih]
theorem offs_getD (on : List Bool) (l : List Nat) (v : Nat) : (offs on l).getD v false = true ↔ on.getD v false = true ∧ v ∉ l := by
  unfold offs
  induction l generalizing on with
  | nil => simp
  | cons a l ih =>
    rw [List.foldl_cons, ih]
    simp only [List.getD_eq_getElem?_getD, List.getElem?_set, List.mem_cons]
    by_cases h : a = v
    · subst h
      by_cases h2 : a < on.length <;> simp [h2]
    · simp [h, Ne.symm h]

/-- What is asked of the sort: it turns the order alone. -/
def Sorts (sortf : List Nat → List Nat) : Prop := ∀ l : List Nat, l.Nodup → (sortf l).Perm l

theorem Inv.cut {g : Net} {s : S} {sortf : List Nat → List Nat} (hs : Sorts sortf) (h : Inv g s) {i : Nat} (hi : i ∈ s.row) (hway : ∀ p ∈ s.way, p.1 ∈ s.row.take (s.row.idxOf i)) : Inv g (s.cut sortf i) := by
  have hnr : s.row.Nodup := (List.nodup_append.1 h.nd).1
  have hnd : (s.row.drop (s.row.idxOf i)).Nodup := hnr.sublist (List.drop_sublist _ _)
  have hp := hs _ hnd
  have hsplit : s.row.take (s.row.idxOf i) ++ s.row.drop (s.row.idxOf i) = s.row := List.take_append_drop _ _
  have hperm : (s.row.take (s.row.idxOf i) ++ (s.parts ++ [sortf (s.row.drop (s.row.idxOf i))]).flatten).Perm (s.row ++ s.parts.flatten) := by
    simp only [List.flatten_append, List.flatten_cons, List.flatten_nil, List.append_nil]
    conv => rhs; rw [← hsplit]
    rw [List.append_assoc]
    refine List.Perm.append_left _ ?_
    exact (List.Perm.append_left _ hp).trans List.perm_append_comm
  refine ⟨h.rng, h.hw, h.hl, by simp [S.cut, offs_length, h.ho], fun v hv => h.lt v (hperm.mem_iff.1 hv), hperm.nodup_iff.2 h.nd, fun v hv => ?_, fun v hv => ?_, ?_, h.k, ?_, fun p hpm => ?_⟩
  · simp only [S.cut]
    rw [offs_getD, h.on v hv, hp.mem_iff]
    have hdis : ∀ x, x ∈ s.row.take (s.row.idxOf i) → x ∉ s.row.drop (s.row.idxOf i) := by
      rw [← hsplit, List.nodup_append] at hnr
      intro x hx hx'
      exact hnr.2.2 x hx x hx' rfl
    constructor
    · rintro ⟨h1, h2⟩
      rw [← hsplit, List.mem_append] at h1
      exact h1.resolve_right h2
    · intro h1
      exact ⟨List.take_subset _ _ h1, hdis v h1⟩
  · rw [show (s.cut sortf i).when_ = s.when_ from rfl, h.met v hv]
    exact hperm.mem_iff.symm
  · have h0 : s.row.Nodup := hnr
    -- the way's nodes lie ahead of the cut
    have hsub : (s.way.map (·.1)).Sublist (s.row.take (s.row.idxOf i)) := by
      have h1 := h.sub
      rw [← hsplit] at h1
      obtain ⟨l1, l2, e, ha, hb⟩ := List.sublist_append_iff.1 h1
      have hb0 : l2 = [] := by
        cases l2 with
        | nil => rfl
        | cons x l2 =>
          exfalso
          have hx : x ∈ s.way.map (·.1) := by rw [e]; simp
          obtain ⟨p, hp1, rfl⟩ := List.mem_map.1 hx
          have h3 := hway p hp1
          have h4 := hb.subset (List.mem_cons_self ..)
          rw [← hsplit, List.nodup_append] at hnr
          exact hnr.2.2 _ h3 _ h4 rfl
      rw [e, hb0, List.append_nil]
      exact ha
    exact hsub
  · have := hperm.length_eq
    show s.n = _
    rw [h.hn]
    exact this.symm
  · rcases List.mem_append.1 hpm with hpm | hpm
    · exact h.ne p hpm
    · simp only [List.mem_singleton] at hpm
      subst hpm
      intro e
      have := hp.length_eq
      rw [e, List.length_drop] at this
      have := List.idxOf_lt_length_of_mem hi
      simp only [List.length_nil] at *
      omega

/-- The top of the way. -/
theorem Inv.top {g : Net} {s : S} {i k : Nat} (h : Inv g s) (ht : s.way.getLast? = some (i, k)) : i ∈ s.row ∧ i < g.length ∧ k ≤ (nx g i).length ∧ ∀ p ∈ s.way.dropLast, p.1 ∈ s.row.take (s.row.idxOf i) := by
  have hs := getLast_split ht
  have hsub := h.sub
  rw [hs] at hsub
  simp only [List.map_append, List.map_cons, List.map_nil] at hsub
  have hm : i ∈ s.row := hsub.subset (by simp)
  refine ⟨hm, h.lt i (by simp [hm]), h.k (i, k) (by rw [hs]; simp), fun p hp => ?_⟩
  obtain ⟨r1, r2, hr, h1, h2⟩ := List.append_sublist_iff.1 hsub
  have hi2 : i ∈ r2 := h2.subset (by simp)
  have hnr : s.row.Nodup := (List.nodup_append.1 h.nd).1
  have hp1 : p.1 ∈ r1 := h1.subset (List.mem_map.2 ⟨p, hp, rfl⟩)
  have hidx : r1.length ≤ s.row.idxOf i := by
    rw [hr, List.nodup_append] at hnr
    have hn1 : i ∉ r1 := fun hh => hnr.2.2 i hh i hi2 rfl
    rw [hr, List.idxOf_append, if_neg hn1]
    omega
  rw [hr] at hidx ⊢
  rw [List.take_append]
  exact List.mem_append_left _ (by rw [List.take_of_length_le hidx]; exact hp1)

theorem Inv.leave {g : Net} {s : S} {sortf : List Nat → List Nat} (hs : Sorts sortf) (h : Inv g s) {i k : Nat} (ht : s.way.getLast? = some (i, k)) : Inv g (s.leave sortf i) := by
  unfold S.leave
  have hu := h.up i
  obtain ⟨hm, hi, hk, hway⟩ := h.top ht
  refine Inv.post ?_ _
  split
  · obtain ⟨low, hl, he⟩ := s.up_eq i
    rw [he] at hu ⊢
    exact hu.cut hs hm hway
  · exact hu

theorem nx_mem {g : Net} {i k : Nat} (h : k < (nx g i).length) : (nx g i).getD k 0 ∈ nx g i := by
  rw [List.getD_eq_getElem?_getD, List.getElem?_eq_getElem h]
  exact List.getElem_mem h

theorem Inv.step {g : Net} {s : S} {sortf : List Nat → List Nat} (hs : Sorts sortf) (h : Inv g s) {i k : Nat} (ht : s.way.getLast? = some (i, k)) : Inv g (s.step sortf g i k) := by
  unfold S.step
  split
  · exact h.leave hs ht
  · rename_i hk
    obtain ⟨hm, hi, hk2, hway⟩ := h.top ht
    have hto : (nx g i).getD k 0 < g.length := h.rng i _ (nx_mem (by omega))
    have hb := fun low hl => h.bump ht hk (low := low) hl
    dsimp only
    split
    · exact (hb s.low h.hl).meet hto (by assumption)
    · split
      · exact hb _ (by simp [h.hl])
      · exact hb s.low h.hl

theorem sum_upd : ∀ (N j : Nat) (f h : Nat → Nat), j < N → (∀ v, v < N → v ≠ j → f v = h v) → ((List.range N).map f).sum + h j = ((List.range N).map h).sum + f j
  | 0, j, _, _, hj, _ => absurd hj (by omega)
  | N + 1, j, f, h, hj, he => by
    simp only [List.range_succ, List.map_append, List.map_cons, List.map_nil, List.sum_append, List.sum_cons, List.sum_nil]
    by_cases e : j = N
    · subst e
      have : (List.range j).map f = (List.range j).map h := List.map_congr_left fun v hv => he v (by have := List.mem_range.1 hv; omega) (by have := List.mem_range.1 hv; omega)
      rw [this]; omega
    · have := sum_upd N j f h (by omega) fun v hv hn => he v (by omega) hn
      have h2 := he N (by omega) (fun hh => e hh.symm)
      omega

/-- What is left to do. -/
def unm (g : Net) (w : List Nat) : Nat := ((List.range g.length).map fun v => if w.getD v 0 = 0 then (nx g v).length + 2 else 0).sum
def wayM (g : Net) (w : List (Nat × Nat)) : Nat := (w.map fun p => (nx g p.1).length - p.2 + 1).sum
def S.mu (g : Net) (s : S) : Nat := unm g s.when_ + wayM g s.way

theorem wayM_app (g : Net) (a b : List (Nat × Nat)) : wayM g (a ++ b) = wayM g a + wayM g b := by simp [wayM]
theorem unm_set {g : Net} {w : List Nat} {i x : Nat} (hi : i < g.length) (hw : w.length = g.length) (h0 : w.getD i 0 = 0) (hx : x ≠ 0) : unm g (w.set i x) + ((nx g i).length + 2) = unm g w := by
  have := sum_upd g.length i (fun v => if (w.set i x).getD v 0 = 0 then (nx g v).length + 2 else 0) (fun v => if w.getD v 0 = 0 then (nx g v).length + 2 else 0) hi fun v hv hn => by
    rw [getD_set (by omega), if_neg hn]
  simp only [h0, if_true] at this
  rw [getD_set (by omega), if_pos rfl, if_neg hx] at this
  unfold unm
  omega

theorem S.leave_way (sortf : List Nat → List Nat) (s : S) (i : Nat) : (s.leave sortf i).way = s.way.dropLast ∧ (s.leave sortf i).when_ = s.when_ := by
  obtain ⟨low, hl, he⟩ := s.up_eq i
  unfold S.leave
  rw [he]
  split <;> exact ⟨rfl, rfl⟩

theorem mu_step {g : Net} {s : S} {sortf : List Nat → List Nat} (h : Inv g s) {i k : Nat} (ht : s.way.getLast? = some (i, k)) : (s.step sortf g i k).mu g < s.mu g := by
  have hs := getLast_split ht
  obtain ⟨hm, hi, hk, _⟩ := h.top ht
  have hw : wayM g s.way = wayM g s.way.dropLast + ((nx g i).length - k + 1) := by
    conv => lhs; rw [hs, wayM_app]
    simp [wayM]
  unfold S.step
  split
  · obtain ⟨h1, h2⟩ := S.leave_way sortf s i
    unfold S.mu
    rw [h1, h2, hw]
    omega
  · rename_i hne
    have hto : (nx g i).getD k 0 < g.length := h.rng i _ (nx_mem (by omega))
    have hb : wayM g (s.way.dropLast ++ [(i, k + 1)]) = wayM g s.way.dropLast + ((nx g i).length - (k + 1) + 1) := by rw [wayM_app]; simp [wayM]
    dsimp only
    split
    · rename_i h0
      have hu := unm_set (x := s.n + 1) hto h.hw h0 (by omega)
      unfold S.mu S.meet
      simp only
      rw [wayM_app, hb, hw]
      have : wayM g [((nx g i).getD k 0, 0)] = (nx g ((nx g i).getD k 0)).length + 1 := by simp [wayM]
      rw [this]
      omega
    · split <;> (unfold S.mu; simp only; rw [hb, hw]; omega)

theorem S.next_top {g : Net} {s : S} {sortf : List Nat → List Nat} {i k : Nat} (ht : s.way.getLast? = some (i, k)) : s.next sortf g = s.step sortf g i k := by simp [S.next, ht]
theorem way_top {s : S} (h : s.way ≠ []) : ∃ i k, s.way.getLast? = some (i, k) := by
  cases hh : s.way.getLast? with
  | none => exact absurd (List.getLast?_eq_none_iff.1 hh) h
  | some p => exact ⟨p.1, p.2, rfl⟩

def iter (sortf : List Nat → List Nat) (g : Net) : Nat → S → S
  | 0, s => s
  | n + 1, s => if s.way = [] then s else iter sortf g n (s.next sortf g)
def fin (sortf : List Nat → List Nat) (g : Net) (s : S) : S := iter sortf g (s.mu g) s

theorem Inv.next {g : Net} {s : S} {sortf : List Nat → List Nat} (hs : Sorts sortf) (h : Inv g s) (hw : s.way ≠ []) : Inv g (s.next sortf g) ∧ (s.next sortf g).mu g < s.mu g := by
  obtain ⟨i, k, ht⟩ := way_top hw
  rw [S.next_top ht]
  exact ⟨h.step hs ht, mu_step h ht⟩

theorem iter_more {g : Net} {sortf : List Nat → List Nat} (hs : Sorts sortf) : ∀ (n m : Nat) (s : S), Inv g s → s.mu g ≤ n → s.mu g ≤ m → iter sortf g n s = iter sortf g m s ∧ (iter sortf g n s).way = [] ∧ Inv g (iter sortf g n s)
  | n, m, s, h, hn, hm => by
    by_cases hw : s.way = []
    · have e : ∀ n, iter sortf g n s = s := fun n => by cases n <;> simp [iter, hw]
      rw [e n, e m]
      exact ⟨rfl, hw, h⟩
    · obtain ⟨h1, h2⟩ := h.next hs hw
      match n, m with
      | 0, _ => omega
      | _ + 1, 0 => omega
      | n + 1, m + 1 =>
        simp only [iter, if_neg hw]
        exact iter_more hs n m _ h1 (by omega) (by omega)

theorem fin_next {g : Net} {s : S} {sortf : List Nat → List Nat} (hs : Sorts sortf) (h : Inv g s) (hw : s.way ≠ []) : fin sortf g (s.next sortf g) = fin sortf g s := by
  obtain ⟨h1, h2⟩ := h.next hs hw
  unfold fin
  obtain ⟨n, hn⟩ : ∃ n, s.mu g = n + 1 := ⟨s.mu g - 1, by omega⟩
  rw [hn]
  simp only [iter, if_neg hw]
  exact (iter_more hs _ _ _ h1 (Nat.le_refl _) (by omega)).1
theorem fin_end {g : Net} {s : S} {sortf : List Nat → List Nat} (hw : s.way = []) : fin sortf g s = s := by
  unfold fin
  cases s.mu g <;> simp [iter, hw]
theorem fin_inv {g : Net} {s : S} {sortf : List Nat → List Nat} (hs : Sorts sortf) (h : Inv g s) : Inv g (fin sortf g s) ∧ (fin sortf g s).way = [] :=
  ⟨(iter_more hs _ _ _ h (Nat.le_refl _) (Nat.le_refl _)).2.2, (iter_more hs _ _ _ h (Nat.le_refl _) (Nat.le_refl _)).2.1⟩

def init (g : Net) : S := ⟨List.replicate g.length 0, List.replicate g.length 0, [], List.replicate g.length false, [], [], 0, []⟩
def one (sortf : List Nat → List Nat) (g : Net) (s : S) (i : Nat) : S := if s.when_.getD i 0 = 0 then fin sortf g (s.meet i) else s
def upto (sortf : List Nat → List Nat) (g : Net) (k : Nat) : S := (List.range k).foldl (one sortf g) (init g)
def partsF (sortf : List Nat → List Nat) (g : Net) : List (List Nat) := (upto sortf g g.length).parts

theorem init_inv {g : Net} (rng : ∀ i k, k ∈ nx g i → k < g.length) : Inv g (init g) := by
  refine ⟨rng, by simp [init], by simp [init], by simp [init], by simp [init], by simp [init], fun v hv => ?_, fun v hv => ?_, by simp [init], by simp [init], by simp [init], by simp [init]⟩
  · simp [init, List.getD_eq_getElem?_getD, hv]
  · simp [init, List.getD_eq_getElem?_getD, hv]

theorem upto_succ (sortf : List Nat → List Nat) (g : Net) (k : Nat) : upto sortf g (k + 1) = one sortf g (upto sortf g k) k := by simp [upto, List.range_succ]
theorem upto_inv {g : Net} {sortf : List Nat → List Nat} (hs : Sorts sortf) (rng : ∀ i k, k ∈ nx g i → k < g.length) : ∀ k, k ≤ g.length → Inv g (upto sortf g k) ∧ (upto sortf g k).way = []
  | 0, _ => ⟨init_inv rng, rfl⟩
  | k + 1, hk => by
    obtain ⟨h1, h2⟩ := upto_inv hs rng k (by omega)
    rw [upto_succ]
    unfold one
    split
    · exact fin_inv hs (h1.meet (by omega) (by assumption))
    · exact ⟨h1, h2⟩
theorem partsF_ok {g : Net} {sortf : List Nat → List Nat} (hs : Sorts sortf) (rng : ∀ i k, k ∈ nx g i → k < g.length) : (partsF sortf g).flatten.Nodup ∧ ∀ v, v ∈ (partsF sortf g).flatten → v < g.length := by
  have h := (upto_inv hs rng g.length (Nat.le_refl _)).1
  exact ⟨(List.nodup_append.1 h.nd).2.1, fun v hv => h.lt v (List.mem_append_right _ hv)⟩
end Go.Tar

/- The search for parts, in plain Lean: what the parts are. -/
namespace Go.Tar

inductive Path (g : Net) : Nat → Nat → Prop
  | refl (a) : Path g a a
  | step {a b c} (h : b ∈ nx g a) (t : Path g b c) : Path g a c
theorem Path.trans {g : Net} {a b c : Nat} (h : Path g a b) (k : Path g b c) : Path g a c := by
  induction h with
  | refl => exact k
  | step h _ ih => exact .step h (ih k)
theorem Path.edge {g : Net} {a b : Nat} (h : b ∈ nx g a) : Path g a b := .step h (.refl _)

def S.wn (s : S) (v : Nat) : Nat := s.when_.getD v 0
def S.lw (s : S) (v : Nat) : Nat := s.low.getD v 0
def S.onWay (s : S) (v : Nat) : Prop := ∃ k, (v, k) ∈ s.way
/-- A node met that is done with its edges, or has none to tell yet. -/
def S.met (s : S) (v : Nat) : Prop := v ∈ s.row ∨ v ∈ s.parts.flatten

/-- Neighbours on the way are joined by the edge that was gone last. -/
def Chain (g : Net) : List (Nat × Nat) → Prop
  | [] => True
  | [_] => True
  | (u, k) :: (v, m) :: l => (∃ j, k = j + 1 ∧ j < (nx g u).length ∧ (nx g u).getD j 0 = v) ∧ Chain g ((v, m) :: l)

theorem Chain.snoc {g : Net} {W : List (Nat × Nat)} {u k v m : Nat} (h : Chain g (W ++ [(u, k)])) (he : ∃ j, k = j + 1 ∧ j < (nx g u).length ∧ (nx g u).getD j 0 = v) : Chain g (W ++ [(u, k)] ++ [(v, m)]) := by
  induction W with
  | nil => exact ⟨he, trivial⟩
  | cons a W ih =>
    cases W with
    | nil => obtain ⟨a1, a2⟩ := a; exact ⟨h.1, he, trivial⟩
    | cons b W => obtain ⟨a1, a2⟩ := a; obtain ⟨b1, b2⟩ := b; exact ⟨h.1, ih h.2⟩
theorem Chain.init {g : Net} {W : List (Nat × Nat)} {p : Nat × Nat} (h : Chain g (W ++ [p])) : Chain g W := by
  induction W with
  | nil => trivial
  | cons a W ih =>
    cases W with
    | nil => trivial
    | cons b W => obtain ⟨a1, a2⟩ := a; obtain ⟨b1, b2⟩ := b; exact ⟨h.1, ih h.2⟩
theorem Chain.last {g : Net} {W : List (Nat × Nat)} {u k v m : Nat} (h : Chain g (W ++ [(u, k)] ++ [(v, m)])) : ∃ j, k = j + 1 ∧ j < (nx g u).length ∧ (nx g u).getD j 0 = v := by
  induction W with
  | nil => exact h.1
  | cons a W ih =>
    cases W with
    | nil => obtain ⟨a1, a2⟩ := a; exact h.2.1
    | cons b W => obtain ⟨a1, a2⟩ := a; obtain ⟨b1, b2⟩ := b; exact ih h.2
/-- The last edge's number may turn. -/
theorem Chain.turn {g : Net} {W : List (Nat × Nat)} {u k k' : Nat} (h : Chain g (W ++ [(u, k)])) : Chain g (W ++ [(u, k')]) := by
  induction W with
  | nil => trivial
  | cons a W ih =>
    cases W with
    | nil => obtain ⟨a1, a2⟩ := a; exact ⟨h.1, trivial⟩
    | cons b W => obtain ⟨a1, a2⟩ := a; obtain ⟨b1, b2⟩ := b; exact ⟨h.1, ih h.2⟩

structure Inv1 (g : Net) (s : S) : Prop where
  inc : s.row.Pairwise fun a b => s.wn a < s.wn b
  le : ∀ v, v ∈ s.row → s.wn v ≤ s.n
  chain : Chain g s.way
  head : s.row.head? = s.way.head?.map (·.1)
  reach : ∀ v w, v ∈ s.row → s.onWay w → s.wn w ≤ s.wn v → Path g w v
  ord : ∀ (j : Nat) (p : List Nat), s.parts[j]? = some p → ∀ v ∈ p, ∀ t ∈ nx g v, ∃ j' p', j' ≤ j ∧ s.parts[j']? = some p' ∧ t ∈ p'
  conn : ∀ p ∈ s.parts, p ≠ [] ∧ ∀ u v, u ∈ p → v ∈ p → Path g u v
  low : ∀ v, v ∈ s.row → s.lw v ≤ s.wn v ∧ ∃ u, u ∈ s.row ∧ s.wn u = s.lw v ∧ Path g v u
  done : ∀ v, v ∈ s.row → ¬ s.onWay v → s.lw v < s.wn v
  seen : ∀ v, v ∈ s.row → ¬ s.onWay v → ∀ t ∈ nx g v, s.met t ∧ (t ∈ s.row → s.lw v ≤ s.wn t)
  part : ∀ v k, (v, k) ∈ s.way → ∀ j, j + 1 < k → s.met ((nx g v).getD j 0) ∧ ((nx g v).getD j 0 ∈ s.row → s.lw v ≤ s.wn ((nx g v).getD j 0))
  acc : ∀ w v, s.onWay w → v ∈ s.row → s.wn w < s.wn v → (∀ w', s.onWay w' → s.wn w < s.wn w' → s.wn v < s.wn w') → s.lw w ≤ s.lw v
structure Inv2 (g : Net) (s : S) : Prop extends Inv1 g s where
  top : ∀ v k, s.way.getLast? = some (v, k) → ∀ j, j < k → s.met ((nx g v).getD j 0) ∧ ((nx g v).getD j 0 ∈ s.row → s.lw v ≤ s.wn ((nx g v).getD j 0))

theorem Inv2.post {g : Net} {s : S} (h : Inv2 g s) (l : List Nat) : Inv2 g { s with post := l } := ⟨⟨h.inc, h.le, h.chain, h.head, h.reach, h.ord, h.conn, h.low, h.done, h.seen, h.part, h.acc⟩, h.top⟩

theorem Inv.onWay_row {g : Net} {s : S} (h : Inv g s) {w : Nat} (hw : s.onWay w) : w ∈ s.row := by
  obtain ⟨k, hk⟩ := hw
  exact h.sub.subset (List.mem_map.2 ⟨_, hk, rfl⟩)
theorem Inv.row_lt {g : Net} {s : S} (h : Inv g s) {v : Nat} (hv : v ∈ s.row) : v < g.length := h.lt v (List.mem_append_left _ hv)
theorem Inv.met_lt {g : Net} {s : S} (h : Inv g s) {v : Nat} (hv : s.met v) : v < g.length := h.lt v (List.mem_append.2 hv)
theorem Inv.met_iff {g : Net} {s : S} (h : Inv g s) {v : Nat} (hv : v < g.length) : s.wn v ≠ 0 ↔ s.met v := by
  unfold S.wn S.met
  rw [h.met v hv, List.mem_append]
theorem Inv.wn_inj {g : Net} {s : S} (_h : Inv g s) (h2 : Inv1 g s) {a b : Nat} (ha : a ∈ s.row) (hb : b ∈ s.row) (e : s.wn a = s.wn b) : a = b := by
  have hp := h2.inc
  generalize s.row = l at ha hb hp
  induction l with
  | nil => simp at ha
  | cons x l ih =>
    rw [List.pairwise_cons] at hp
    rcases List.mem_cons.1 ha with rfl | ha' <;> rcases List.mem_cons.1 hb with rfl | hb'
    · rfl
    · have := hp.1 b hb'; omega
    · have := hp.1 a ha'; omega
    · exact ih ha' hb' hp.2

/-- What lies ahead of a node in the row was met earlier. -/
theorem take_idx {g : Net} {s : S} (_h : Inv g s) (h2 : Inv1 g s) {i : Nat} (hi : i ∈ s.row) (v : Nat) : (v ∈ s.row.take (s.row.idxOf i) ↔ v ∈ s.row ∧ s.wn v < s.wn i) ∧ (v ∈ s.row.drop (s.row.idxOf i) ↔ v ∈ s.row ∧ s.wn i ≤ s.wn v) := by
  have hlen := List.idxOf_lt_length_of_mem hi
  have hsplit : s.row.take (s.row.idxOf i) ++ s.row.drop (s.row.idxOf i) = s.row := List.take_append_drop _ _
  have hd : s.row.drop (s.row.idxOf i) = i :: s.row.drop (s.row.idxOf i + 1) := by
    rw [List.drop_eq_getElem_cons hlen]
    simp
  have hp := h2.inc
  rw [← hsplit, hd, List.pairwise_append, List.pairwise_cons] at hp
  obtain ⟨_, ⟨hp2, _⟩, hp3⟩ := hp
  have f1 : v ∈ s.row.take (s.row.idxOf i) → s.wn v < s.wn i := fun hv => hp3 v hv i (List.mem_cons_self ..)
  have f2 : v ∈ s.row.drop (s.row.idxOf i) → s.wn i ≤ s.wn v := fun hv => by
    rw [hd] at hv
    rcases List.mem_cons.1 hv with rfl | hv
    · exact Nat.le_refl _
    · exact Nat.le_of_lt (hp2 v hv)
  have f3 : v ∈ s.row ↔ v ∈ s.row.take (s.row.idxOf i) ∨ v ∈ s.row.drop (s.row.idxOf i) := by
    conv => lhs; rw [← hsplit]
    exact List.mem_append
  constructor
  · constructor
    · intro hv; exact ⟨f3.2 (.inl hv), f1 hv⟩
    · rintro ⟨hv, hlt⟩
      rcases f3.1 hv with hv | hv
      · exact hv
      · have := f2 hv; omega
  · constructor
    · intro hv; exact ⟨f3.2 (.inr hv), f2 hv⟩
    · rintro ⟨hv, hlt⟩
      rcases f3.1 hv with hv | hv
      · have := f1 hv; omega
      · exact hv

theorem meet_wn {g : Net} {s : S} {i : Nat} (h : Inv g s) (hi : i < g.length) (v : Nat) : (s.meet i).wn v = if v = i then s.n + 1 else s.wn v := by
  simp only [S.wn, S.meet]
  rw [getD_set (by rw [h.hw]; exact hi)]
theorem meet_lw {g : Net} {s : S} {i : Nat} (h : Inv g s) (hi : i < g.length) (v : Nat) : (s.meet i).lw v = if v = i then s.n + 1 else s.lw v := by
  simp only [S.lw, S.meet]
  rw [getD_set (by rw [h.hl]; exact hi)]

/-- A node is met: from the top's edge that was gone last, or as the first one. -/
theorem Inv1.meet {g : Net} {s : S} {i : Nat} (h : Inv g s) (h2 : Inv1 g s) (hi : i < g.length) (h0 : s.wn i = 0) (hway : s.way = [] ∨ ∃ W u k, s.way = W ++ [(u, k + 1)] ∧ k < (nx g u).length ∧ (nx g u).getD k 0 = i) : Inv2 g (s.meet i) := by
  have hnm : ¬ s.met i := fun hm => ((h.met_iff hi).2 hm) h0
  have hnr : i ∉ s.row := fun hm => hnm (.inl hm)
  have hnw : ¬ s.onWay i := fun hw => hnr (h.onWay_row hw)
  have wn := meet_wn h hi
  have lw := meet_lw h hi
  have row : ∀ v, v ∈ (s.meet i).row ↔ v ∈ s.row ∨ v = i := fun v => by simp [S.meet]
  have onw : ∀ v, (s.meet i).onWay v ↔ s.onWay v ∨ v = i := fun v => by
    simp only [S.onWay, S.meet, List.mem_append, List.mem_singleton, Prod.mk.injEq]
    constructor
    · rintro ⟨k, hk | hk⟩
      · exact .inl ⟨k, hk⟩
      · exact .inr hk.1
    · rintro (⟨k, hk⟩ | rfl)
      · exact ⟨k, .inl hk⟩
      · exact ⟨0, .inr ⟨rfl, rfl⟩⟩
  have hmet : ∀ v, s.met v → (s.meet i).met v := fun v hv => hv.elim (fun hv => .inl ((row v).2 (.inl hv))) .inr
  have neq : ∀ {v}, v ∈ s.row → v ≠ i := fun hv e => hnr (e ▸ hv)
  refine ⟨⟨?_, fun v hv => ?_, ?_, ?_, fun v w hv hw hle => ?_, h2.ord, h2.conn, fun v hv => ?_, fun v hv hw => ?_, fun v hv hw t ht => ?_, fun v k hk j hj => ?_, fun w v hw hv hlt hbet => ?_⟩, fun v k hk j hj => ?_⟩
  · show (s.row ++ [i]).Pairwise _
    rw [List.pairwise_append]
    refine ⟨?_, List.pairwise_singleton .., fun a ha b hb => ?_⟩
    · refine h2.inc.imp_of_mem fun {a b} ha hb hab => ?_
      rw [wn, wn, if_neg (neq ha), if_neg (neq hb)]
      exact hab
    · simp only [List.mem_singleton] at hb
      subst hb
      rw [wn, wn, if_neg (neq ha), if_pos rfl]
      have := h2.le a ha
      omega
  · rw [wn]
    show _ ≤ s.n + 1
    split
    · exact Nat.le_refl _
    · rcases (row v).1 hv with hv | hv
      · have := h2.le v hv; omega
      · contradiction
  · show Chain g (s.way ++ [(i, 0)])
    rcases hway with hw | ⟨W, u, k, hw, hk, he⟩
    · rw [hw]; trivial
    · have := h2.chain
      rw [hw] at this ⊢
      exact this.snoc ⟨k, rfl, hk, he⟩
  · show (s.row ++ [i]).head? = Option.map (fun p : Nat × Nat => p.1) (s.way ++ [(i, 0)]).head?
    have := h2.head
    cases hr : s.row with
    | nil =>
      rw [hr] at this
      cases hw : s.way with
      | nil => rfl
      | cons a l => rw [hw] at this; simp at this
    | cons a l =>
      rw [hr] at this
      cases hw : s.way with
      | nil => rw [hw] at this; simp at this
      | cons b m => rw [hw] at this; simpa using this
  · rcases (row v).1 hv with hv' | rfl
    · rcases (onw w).1 hw with hw | rfl
      · rw [wn, wn, if_neg (neq (h.onWay_row hw)), if_neg (neq hv')] at hle
        exact h2.reach v w hv' hw hle
      · rw [wn, wn, if_pos rfl, if_neg (neq hv')] at hle
        have := h2.le v hv'
        omega
    · rcases (onw w).1 hw with hw | rfl
      · rcases hway with he | ⟨W, u, k, he, hk, hu⟩
        · obtain ⟨k, hk⟩ := hw
          rw [he] at hk
          simp at hk
        · have hou : s.onWay u := ⟨k + 1, by rw [he]; simp⟩
          have hwu : s.wn w ≤ s.wn u := by
            -- the top was met last of the way
            obtain ⟨m, hm⟩ := hw
            rw [he] at hm
            have hsub := h.sub
            rw [he] at hsub
            simp only [List.map_append, List.map_cons, List.map_nil] at hsub
            have hp := h2.inc.sublist hsub
            rw [List.pairwise_append] at hp
            rcases List.mem_append.1 hm with hm | hm
            · exact Nat.le_of_lt (hp.2.2 w (List.mem_map.2 ⟨_, hm, rfl⟩) u (by simp))
            · simp only [List.mem_singleton, Prod.mk.injEq] at hm
              rw [hm.1]
              exact Nat.le_refl _
          refine (h2.reach u w (h.onWay_row hou) hw hwu).trans (.edge ?_)
          rw [← hu]
          exact nx_mem hk
      · exact .refl _
  · rcases (row v).1 hv with hv | rfl
    · obtain ⟨h3, u, hu, h4, h5⟩ := h2.low v hv
      rw [lw, wn, if_neg (neq hv), if_neg (neq hv)]
      exact ⟨h3, u, (row u).2 (.inl hu), by rw [wn, if_neg (neq hu)]; exact h4, h5⟩
    · rw [lw, wn, if_pos rfl, if_pos rfl]
      exact ⟨Nat.le_refl _, v, (row v).2 (.inr rfl), by rw [wn, if_pos rfl], .refl _⟩
  · rcases (row v).1 hv with hv | rfl
    · rw [lw, wn, if_neg (neq hv), if_neg (neq hv)]
      exact h2.done v hv fun hh => hw ((onw v).2 (.inl hh))
    · exact absurd ((onw v).2 (.inr rfl)) hw
  · rcases (row v).1 hv with hv | rfl
    · obtain ⟨h3, h4⟩ := h2.seen v hv (fun hh => hw ((onw v).2 (.inl hh))) t ht
      have hti : t ≠ i := fun e => hnm (e ▸ h3)
      refine ⟨hmet t h3, fun htr => ?_⟩
      rw [lw, wn, if_neg (neq hv), if_neg hti]
      rcases (row t).1 htr with htr | htr
      · exact h4 htr
      · exact absurd htr hti
    · exact absurd ((onw v).2 (.inr rfl)) hw
  · have hk' : (v, k) ∈ s.way ∨ (v, k) = (i, 0) := by simpa [S.meet] using hk
    rcases hk' with hk' | hk'
    · obtain ⟨h3, h4⟩ := h2.part v k hk' j hj
      have hvr : v ∈ s.row := h.onWay_row ⟨k, hk'⟩
      have hti : (nx g v).getD j 0 ≠ i := fun e => hnm (e ▸ h3)
      refine ⟨hmet _ h3, fun htr => ?_⟩
      rw [lw, wn, if_neg (neq hvr), if_neg hti]
      rcases (row _).1 htr with htr | htr
      · exact h4 htr
      · exact absurd htr hti
    · simp only [Prod.mk.injEq] at hk'
      obtain ⟨_, rfl⟩ := hk'
      omega
  · rcases (row v).1 hv with hv' | rfl
    · rcases (onw w).1 hw with hw | rfl
      · rw [wn, wn, if_neg (neq (h.onWay_row hw)), if_neg (neq hv')] at hlt
        rw [lw, lw, if_neg (neq (h.onWay_row hw)), if_neg (neq hv')]
        refine h2.acc w v hw hv' hlt fun w' hw' hlt' => ?_
        have hne := neq (h.onWay_row hw')
        have := hbet w' ((onw w').2 (.inl hw')) (by rw [wn, wn, if_neg (neq (h.onWay_row hw)), if_neg hne]; exact hlt')
        rwa [wn, wn, if_neg (neq hv'), if_neg hne] at this
      · rw [wn, wn, if_pos rfl, if_neg (neq hv')] at hlt
        have := h2.le v hv'
        omega
    · exfalso
      have := hbet v ((onw v).2 (.inr rfl)) hlt
      omega
  · have : (s.meet i).way.getLast? = some (i, 0) := by simp [S.meet]
    rw [this] at hk
    simp only [Option.some.injEq, Prod.mk.injEq] at hk
    omega

/-- The top's next edge is gone: low may turn at the top alone. -/
theorem Inv2.bump {g : Net} {s : S} (h : Inv g s) (h2 : Inv2 g s) {i k : Nat} (ht : s.way.getLast? = some (i, k)) {x : Nat} (hx : x ≤ s.lw i) (hxu : x = s.lw i ∨ (nx g i).getD k 0 ∈ s.row ∧ k < (nx g i).length ∧ s.wn ((nx g i).getD k 0) = x) :
    Inv1 g { s with way := s.way.dropLast ++ [(i, k + 1)], low := s.low.set i x } := by
  obtain ⟨hm, hi, hk, _⟩ := h.top ht
  have hs := getLast_split ht
  have onw : ∀ v, S.onWay { s with way := s.way.dropLast ++ [(i, k + 1)], low := s.low.set i x } v ↔ s.onWay v := fun v => by
    simp only [S.onWay]
    conv => rhs; rw [hs]
    simp only [List.mem_append, List.mem_singleton, Prod.mk.injEq]
    constructor
    · rintro ⟨m, hm | hm⟩
      · exact ⟨m, .inl hm⟩
      · exact ⟨k, .inr ⟨hm.1, rfl⟩⟩
    · rintro ⟨m, hm | hm⟩
      · exact ⟨m, .inl hm⟩
      · exact ⟨k + 1, .inr ⟨hm.1, rfl⟩⟩
  have lw : ∀ v, S.lw { s with way := s.way.dropLast ++ [(i, k + 1)], low := s.low.set i x } v = if v = i then x else s.lw v := fun v => by
    simp only [S.lw]
    rw [getD_set (by rw [h.hl]; exact hi)]
  have lwle : ∀ v, S.lw { s with way := s.way.dropLast ++ [(i, k + 1)], low := s.low.set i x } v ≤ s.lw v := fun v => by
    rw [lw]
    split
    · rename_i e; rw [e]; exact hx
    · exact Nat.le_refl _
  have hiw : s.onWay i := ⟨k, by rw [hs]; simp⟩
  refine ⟨h2.inc, h2.le, ?_, ?_, fun v w hv hw hle => h2.reach v w hv ((onw w).1 hw) hle, h2.ord, h2.conn, fun v hv => ?_, fun v hv hw => ?_, fun v hv hw t ht2 => ?_, fun v m hm2 j hj => ?_, fun w v hw hv hlt hbet => ?_⟩
  · have := h2.chain
    rw [hs] at this
    exact this.turn
  · have := h2.head
    rw [hs] at this
    rw [show S.row { s with way := s.way.dropLast ++ [(i, k + 1)], low := s.low.set i x } = s.row from rfl, this]
    cases s.way.dropLast <;> rfl
  · refine ⟨Nat.le_trans (lwle v) (h2.low v hv).1, ?_⟩
    rw [lw]
    by_cases e : v = i
    · subst e
      rw [if_pos rfl]
      rcases hxu with e | ⟨h3, h4, h5⟩
      · rw [e]; exact (h2.low v hv).2
      · exact ⟨_, h3, h5, .edge (nx_mem h4)⟩
    · rw [if_neg e]; exact (h2.low v hv).2
  · exact Nat.lt_of_le_of_lt (lwle v) (h2.done v hv fun hh => hw ((onw v).2 hh))
  · obtain ⟨h3, h4⟩ := h2.seen v hv (fun hh => hw ((onw v).2 hh)) t ht2
    exact ⟨h3, fun hr => Nat.le_trans (lwle v) (h4 hr)⟩
  · have key : s.met ((nx g v).getD j 0) ∧ ((nx g v).getD j 0 ∈ s.row → s.lw v ≤ s.wn ((nx g v).getD j 0)) := by
      simp only [List.mem_append, List.mem_singleton, Prod.mk.injEq] at hm2
      rcases hm2 with hm2 | ⟨rfl, rfl⟩
      · exact h2.part v m (by rw [hs]; simp [hm2]) j hj
      · exact h2.top v k ht j (by omega)
    exact ⟨key.1, fun hr => Nat.le_trans (lwle v) (key.2 hr)⟩
  · have := h2.acc w v ((onw w).1 hw) hv hlt fun w' hw' hlt' => hbet w' ((onw w').2 hw') hlt'
    refine Nat.le_trans (lwle w) ?_
    rw [lw]
    split
    · rename_i e
      subst e
      have := hbet v ((onw v).2 hiw) hlt
      omega
    · exact this
theorem Inv2.bump2 {g : Net} {s : S} (h : Inv g s) (h2 : Inv2 g s) {i k : Nat} (ht : s.way.getLast? = some (i, k)) {x : Nat} (hx : x ≤ s.lw i) (hxu : x = s.lw i ∨ (nx g i).getD k 0 ∈ s.row ∧ k < (nx g i).length ∧ s.wn ((nx g i).getD k 0) = x)
    (hto : s.met ((nx g i).getD k 0) ∧ ((nx g i).getD k 0 ∈ s.row → x ≤ s.wn ((nx g i).getD k 0))) : Inv2 g { s with way := s.way.dropLast ++ [(i, k + 1)], low := s.low.set i x } := by
  obtain ⟨hm, hi, hk, _⟩ := h.top ht
  refine ⟨h2.bump h ht hx hxu, fun v m hm2 j hj => ?_⟩
  simp only [List.getLast?_append, List.getLast?_singleton, Option.some_or, Option.some.injEq, Prod.mk.injEq] at hm2
  obtain ⟨rfl, rfl⟩ := hm2
  have lw : S.lw { s with way := s.way.dropLast ++ [(i, k + 1)], low := s.low.set i x } i = x := by
    simp only [S.lw]
    rw [getD_set (by rw [h.hl]; exact hi), if_pos rfl]
  rw [lw]
  by_cases e : j = k
  · subst e; exact hto
  · obtain ⟨h3, h4⟩ := h2.top i k ht j (by omega)
    exact ⟨h3, fun hr => Nat.le_trans hx (h4 hr)⟩

theorem Chain.mid {g : Net} {W : List (Nat × Nat)} {p : Nat × Nat} (h : Chain g (W ++ [p])) {q : Nat × Nat} (hq : W.getLast? = some q) : ∃ j, q.2 = j + 1 ∧ j < (nx g q.1).length ∧ (nx g q.1).getD j 0 = p.1 := by
  have := getLast_split hq
  rw [this] at h
  obtain ⟨u, k⟩ := q
  obtain ⟨v, m⟩ := p
  exact h.last

/-- The way in two parts: what stands ahead was met earlier. -/
theorem way_lt {g : Net} {s : S} (h : Inv g s) (h2 : Inv1 g s) {i k : Nat} (ht : s.way.getLast? = some (i, k)) {w m : Nat} (hw : (w, m) ∈ s.way.dropLast) : s.wn w < s.wn i := by
  have hs := getLast_split ht
  have hsub := h.sub
  rw [hs] at hsub
  simp only [List.map_append, List.map_cons, List.map_nil] at hsub
  have hp := h2.inc.sublist hsub
  rw [List.pairwise_append] at hp
  exact hp.2.2 w (List.mem_map.2 ⟨_, hw, rfl⟩) i (by simp)

/-- The state behind a node that is left, ahead of the cut. -/
structure Left (g : Net) (s : S) (i : Nat) (t : S) : Prop where
  row : t.row = s.row
  when_ : t.when_ = s.when_
  parts : t.parts = s.parts
  n : t.n = s.n
  on : t.on = s.on
  way : t.way = s.way.dropLast
  lwi : t.lw i = s.lw i
  lwu : ∀ u m, s.way.dropLast.getLast? = some (u, m) → t.lw u = min (s.lw u) (s.lw i)
  lwo : ∀ v, (∀ m, s.way.dropLast.getLast? ≠ some (v, m)) → t.lw v = s.lw v

theorem up_left {g : Net} {s : S} (h : Inv g s) (h2 : Inv1 g s) {i k : Nat} (ht : s.way.getLast? = some (i, k)) : Left g s i (s.up i) := by
  have hs := getLast_split ht
  unfold S.up
  split
  · rename_i u m hu
    have hum : (u, m) ∈ s.way.dropLast := by rw [getLast_split hu]; simp
    have hlt := way_lt h h2 ht hum
    have hur : u < g.length := h.row_lt (h.onWay_row ⟨m, by rw [hs]; simp [hum]⟩)
    have lw : ∀ v, S.lw { s with way := s.way.dropLast, low := s.low.set u (min (s.low.getD u 0) (s.low.getD i 0)) } v = if v = u then min (s.lw u) (s.lw i) else s.lw v := fun v => by
      simp only [S.lw]
      rw [getD_set (by rw [h.hl]; exact hur)]
    refine ⟨rfl, rfl, rfl, rfl, rfl, rfl, ?_, fun u' m' hu' => ?_, fun v hv => ?_⟩
    · rw [lw, if_neg]
      intro e
      rw [e] at hlt
      omega
    · rw [hu] at hu'
      simp only [Option.some.injEq, Prod.mk.injEq] at hu'
      rw [lw, if_pos hu'.1.symm, hu'.1]
    · rw [lw, if_neg]
      intro e
      exact hv m (by rw [hu, e])
  · rename_i hn
    refine ⟨rfl, rfl, rfl, rfl, rfl, rfl, rfl, fun u m hu => ?_, fun v _ => rfl⟩
    rw [hn] at hu
    cases hu

/-- What is true of the segment behind the top. -/
theorem seg_acc {g : Net} {s : S} (h : Inv g s) (h2 : Inv1 g s) {i k : Nat} (ht : s.way.getLast? = some (i, k)) {v : Nat} (hv : v ∈ s.row) (hlt : s.wn i < s.wn v) : s.lw i ≤ s.lw v ∧ ¬ s.onWay v := by
  have hs := getLast_split ht
  have hmax : ∀ w', s.onWay w' → s.wn w' ≤ s.wn i := fun w' hw' => by
    obtain ⟨m, hm⟩ := hw'
    rw [hs] at hm
    rcases List.mem_append.1 hm with hm | hm
    · exact Nat.le_of_lt (way_lt h h2 ht hm)
    · simp only [List.mem_singleton, Prod.mk.injEq] at hm
      rw [hm.1]; exact Nat.le_refl _
  exact ⟨h2.acc i v ⟨k, by rw [hs]; simp⟩ hv hlt fun w' hw' hl => by have := hmax w' hw'; omega, fun hw => by have := hmax v hw; omega⟩

/-- From each node of the segment the top is reached, if its low is its own number. -/
theorem seg_back {g : Net} {s : S} (h : Inv g s) (h2 : Inv1 g s) {i k : Nat} (ht : s.way.getLast? = some (i, k)) (hroot : s.lw i = s.wn i) : ∀ (n : Nat) (v : Nat), s.wn v ≤ n → v ∈ s.row → s.wn i ≤ s.wn v → Path g v i
  | 0, v, hn, hv, hle => by
    have := (h.met_iff (h.row_lt hv)).2 (.inl hv)
    omega
  | n + 1, v, hn, hv, hle => by
    by_cases e : v = i
    · rw [e]; exact .refl _
    · have hlt : s.wn i < s.wn v := by
        rcases Nat.lt_or_ge (s.wn i) (s.wn v) with h3 | h3
        · exact h3
        · exact absurd (h.wn_inj h2 hv (h.top ht).1 (by omega)) e
      obtain ⟨h3, h4⟩ := seg_acc h h2 ht hv hlt
      obtain ⟨_, u, hu, h5, h6⟩ := h2.low v hv
      have h7 := h2.done v hv h4
      exact h6.trans (seg_back h h2 ht hroot n u (by omega) hu (by omega))

theorem Left.inv2 {g : Net} {s t : S} (h : Inv g s) (h2 : Inv2 g s) {i k : Nat} (ht : s.way.getLast? = some (i, k)) (hk : k = (nx g i).length) (hl : Left g s i t) (hno : s.lw i ≠ s.wn i) : Inv2 g t := by
  have hs := getLast_split ht
  obtain ⟨hm, hi, _, _⟩ := h.top ht
  have wn : ∀ v, t.wn v = s.wn v := fun v => by simp [S.wn, hl.when_]
  have onw : ∀ v, t.onWay v ↔ s.onWay v ∧ v ≠ i := fun v => by
    simp only [S.onWay, hl.way]
    constructor
    · rintro ⟨m, hm⟩
      exact ⟨⟨m, by rw [hs]; simp [hm]⟩, fun e => by have := way_lt h h2.toInv1 ht hm; rw [e] at this; omega⟩
    · rintro ⟨⟨m, hm⟩, hne⟩
      rw [hs] at hm
      rcases List.mem_append.1 hm with hm | hm
      · exact ⟨m, hm⟩
      · simp only [List.mem_singleton, Prod.mk.injEq] at hm
        exact absurd hm.1 hne
  have met : ∀ v, t.met v ↔ s.met v := fun v => by simp [S.met, hl.row, hl.parts]
  have lwle : ∀ v, t.lw v ≤ s.lw v := fun v => by
    by_cases e : ∃ m, s.way.dropLast.getLast? = some (v, m)
    · obtain ⟨m, e⟩ := e
      rw [hl.lwu v m e]; exact Nat.min_le_left _ _
    · rw [hl.lwo v fun m hm => e ⟨m, hm⟩]; exact Nat.le_refl _
  have hlow : s.lw i < s.wn i := by have := (h2.low i hm).1; omega
  have upedge : ∀ u m, s.way.dropLast.getLast? = some (u, m) → ∃ j, m = j + 1 ∧ j < (nx g u).length ∧ (nx g u).getD j 0 = i := fun u m hu => by
    have := h2.chain
    rw [hs] at this
    exact this.mid hu
  have hiw : s.onWay i := ⟨k, by rw [hs]; simp⟩
  refine ⟨⟨?_, fun v hv => ?_, ?_, ?_, fun v w hv hw hle => ?_, ?_, ?_, fun v hv => ?_, fun v hv hw => ?_, fun v hv hw t' ht2 => ?_, fun v m hm2 j hj => ?_, fun w v hw hv hlt hbet => ?_⟩, fun v m hm2 j hj => ?_⟩
  · rw [hl.row]
    exact h2.inc.imp fun hab => by rw [wn, wn]; exact hab
  · rw [hl.row] at hv
    rw [wn, hl.n]
    exact h2.le v hv
  · rw [hl.way]
    have := h2.chain
    rw [hs] at this
    exact this.init
  · rw [hl.row, hl.way]
    have := h2.head
    rw [this]
    conv => lhs; rw [hs]
    cases hd : s.way.dropLast with
    | nil =>
      -- the last of the way: its low would be its own number
      exfalso
      rw [hs, hd] at this
      obtain ⟨_, u, hu, h5, _⟩ := h2.low i hm
      cases hr : s.row with
      | nil => rw [hr] at hm; simp at hm
      | cons a l =>
        rw [hr] at this
        simp at this
        subst this
        have hp := h2.inc
        rw [hr, List.pairwise_cons] at hp
        rw [hr] at hu
        rcases List.mem_cons.1 hu with rfl | hu
        · omega
        · have := hp.1 u hu; omega
    | cons a l => rfl
  · rw [hl.row] at hv
    rw [wn, wn] at hle
    exact h2.reach v w hv ((onw w).1 hw).1 hle
  · rw [hl.parts]; exact h2.ord
  · rw [hl.parts]; exact h2.conn
  · rw [hl.row] at hv ⊢
    rw [wn]
    refine ⟨Nat.le_trans (lwle v) (h2.low v hv).1, ?_⟩
    by_cases e : ∃ m, s.way.dropLast.getLast? = some (v, m)
    · obtain ⟨m, e⟩ := e
      rw [hl.lwu v m e]
      obtain ⟨j, _, hj, hji⟩ := upedge v m e
      rcases Nat.le_total (s.lw v) (s.lw i) with h3 | h3
      · rw [Nat.min_eq_left h3]
        obtain ⟨_, u, hu, h4, h5⟩ := h2.low v hv
        exact ⟨u, hu, by rw [wn]; exact h4, h5⟩
      · rw [Nat.min_eq_right h3]
        obtain ⟨_, u, hu, h4, h5⟩ := h2.low i hm
        exact ⟨u, hu, by rw [wn]; exact h4, .step (by rw [← hji]; exact nx_mem hj) h5⟩
    · rw [hl.lwo v fun m hm => e ⟨m, hm⟩]
      obtain ⟨_, u, hu, h4, h5⟩ := h2.low v hv
      exact ⟨u, hu, by rw [wn]; exact h4, h5⟩
  · rw [hl.row] at hv
    rw [wn]
    by_cases e : v = i
    · rw [e, hl.lwi]; exact hlow
    · exact Nat.lt_of_le_of_lt (lwle v) (h2.done v hv fun hh => hw ((onw v).2 ⟨hh, e⟩))
  · rw [hl.row] at hv ⊢
    rw [met, wn]
    by_cases e : v = i
    · subst e
      obtain ⟨j, hj, rfl⟩ := List.mem_iff_getElem.1 ht2
      have := h2.top v k ht j (by omega)
      simp only [List.getD_eq_getElem?_getD, List.getElem?_eq_getElem hj, Option.getD_some] at this
      exact ⟨this.1, fun hr => Nat.le_trans (lwle v) (this.2 hr)⟩
    · obtain ⟨h3, h4⟩ := h2.seen v hv (fun hh => hw ((onw v).2 ⟨hh, e⟩)) t' ht2
      exact ⟨h3, fun hr => Nat.le_trans (lwle v) (h4 hr)⟩
  · rw [hl.way] at hm2
    rw [met, wn, hl.row]
    obtain ⟨h3, h4⟩ := h2.part v m (by rw [hs]; simp [hm2]) j hj
    exact ⟨h3, fun hr => Nat.le_trans (lwle v) (h4 hr)⟩
  · rw [hl.row] at hv
    rw [wn, wn] at hlt
    obtain ⟨hws, hwi⟩ := (onw w).1 hw
    have hrest : (∀ w', s.onWay w' → s.wn w < s.wn w' → s.wn v < s.wn w') → t.lw w ≤ s.lw v := fun hh => Nat.le_trans (lwle w) (h2.acc w v hws hv hlt hh)
    have hbet' : ∀ w', s.onWay w' → w' ≠ i → s.wn w < s.wn w' → s.wn v < s.wn w' := fun w' hw' hne hl' => by
      have := hbet w' ((onw w').2 ⟨hw', hne⟩) (by rw [wn, wn]; exact hl')
      rwa [wn, wn] at this
    have hwlt : s.wn w < s.wn i := by
      obtain ⟨m, hm3⟩ := hws
      rw [hs] at hm3
      rcases List.mem_append.1 hm3 with hm3 | hm3
      · exact way_lt h h2.toInv1 ht hm3
      · simp only [List.mem_singleton, Prod.mk.injEq] at hm3
        exact absurd hm3.1 hwi
    -- v is no top of the new way, or lies ahead of the old top
    have hvlow : t.lw v = s.lw v ∨ ∃ m, s.way.dropLast.getLast? = some (v, m) := by
      by_cases e : ∃ m, s.way.dropLast.getLast? = some (v, m)
      · exact .inr e
      · exact .inl (hl.lwo v fun m hm => e ⟨m, hm⟩)
    rcases hvlow with hvl | ⟨m, hvm⟩
    · rw [hvl]
      by_cases hvi : s.wn v < s.wn i
      · refine hrest fun w' hw' hl' => ?_
        by_cases e : w' = i
        · rw [e]; exact hvi
        · exact hbet' w' hw' e hl'
      · -- behind the old top: w is the new top
        have htop : ∃ m, s.way.dropLast.getLast? = some (w, m) := by
          obtain ⟨m, hm3⟩ := hw
          rw [hl.way] at hm3
          cases hg : s.way.dropLast.getLast? with
          | none => rw [List.getLast?_eq_none_iff] at hg; rw [hg] at hm3; simp at hm3
          | some q =>
            obtain ⟨u, mu⟩ := q
            refine ⟨mu, ?_⟩
            have hspl := getLast_split hg
            by_cases e : u = w
            · rw [e]
            · exfalso
              have hum : (u, mu) ∈ s.way.dropLast := by rw [hspl]; simp
              have hult := way_lt h h2.toInv1 ht hum
              have huw : s.onWay u := ⟨mu, by rw [hs]; simp [hum]⟩
              have hwu : s.wn w < s.wn u := by
                rw [hspl] at hm3
                rcases List.mem_append.1 hm3 with hm3 | hm3
                · have hsub := h.sub
                  rw [hs, hspl] at hsub
                  simp only [List.map_append, List.map_cons, List.map_nil] at hsub
                  have hp := h2.inc.sublist hsub
                  rw [List.pairwise_append, List.pairwise_append] at hp
                  exact hp.1.2.2 w (List.mem_map.2 ⟨_, hm3, rfl⟩) u (by simp)
                · simp only [List.mem_singleton, Prod.mk.injEq] at hm3
                  exact absurd hm3.1.symm e
              have := hbet' u huw (fun e => by rw [e] at hult; omega) hwu
              omega
        obtain ⟨m, htop⟩ := htop
        rw [hl.lwu w m htop]
        refine Nat.le_trans (Nat.min_le_right _ _) ?_
        by_cases e : v = i
        · rw [e]; exact Nat.le_refl _
        · refine (seg_acc h h2.toInv1 ht hv ?_).1
          rcases Nat.lt_or_ge (s.wn i) (s.wn v) with h3 | h3
          · exact h3
          · exact absurd (h.wn_inj h2.toInv1 hv hm (by omega)) e
    · exfalso
      have hvd : (v, m) ∈ s.way.dropLast := by rw [getLast_split hvm]; simp
      have := hbet' v ⟨m, by rw [hs]; simp [hvd]⟩ (fun e => by have := way_lt h h2.toInv1 ht hvd; rw [e] at this; omega) hlt
      omega
  · rw [hl.way] at hm2
    rw [met, wn, hl.row]
    obtain ⟨q, hq, hql, hqi⟩ := upedge v m hm2
    by_cases e : j + 1 < m
    · obtain ⟨h3, h4⟩ := h2.part v m (by rw [hs, getLast_split hm2]; simp) j e
      exact ⟨h3, fun hr => Nat.le_trans (lwle v) (h4 hr)⟩
    · obtain rfl : j = q := by omega
      rw [hqi, hl.lwu v m hm2]
      exact ⟨.inl hm, fun _ => Nat.le_trans (Nat.min_le_right _ _) (h2.low i hm).1⟩

theorem Left.cut2 {g : Net} {s t : S} {sortf : List Nat → List Nat} (hso : Sorts sortf) (h : Inv g s) (h2 : Inv2 g s) {i k : Nat} (ht : s.way.getLast? = some (i, k)) (hk : k = (nx g i).length) (hl : Left g s i t) (hroot : s.lw i = s.wn i) : Inv2 g (t.cut sortf i) := by
  have hs := getLast_split ht
  obtain ⟨hm, hi, _, _⟩ := h.top ht
  have wn : ∀ v, (t.cut sortf i).wn v = s.wn v := fun v => by simp [S.wn, S.cut, hl.when_]
  have wayr : (t.cut sortf i).way = s.way.dropLast := hl.way
  have onw : ∀ v, (t.cut sortf i).onWay v ↔ s.onWay v ∧ v ≠ i := fun v => by
    simp only [S.onWay, wayr]
    constructor
    · rintro ⟨m, hm⟩
      exact ⟨⟨m, by rw [hs]; simp [hm]⟩, fun e => by have := way_lt h h2.toInv1 ht hm; rw [e] at this; omega⟩
    · rintro ⟨⟨m, hm⟩, hne⟩
      rw [hs] at hm
      rcases List.mem_append.1 hm with hm | hm
      · exact ⟨m, hm⟩
      · simp only [List.mem_singleton, Prod.mk.injEq] at hm
        exact absurd hm.1 hne
  have hup : ∀ v m, s.way.dropLast.getLast? = some (v, m) → (v, m) ∈ s.way.dropLast := fun v m hv => by rw [getLast_split hv]; simp
  have lw : ∀ v, (t.cut sortf i).lw v = s.lw v := fun v => by
    show t.lw v = s.lw v
    by_cases e : ∃ m, s.way.dropLast.getLast? = some (v, m)
    · obtain ⟨m, e⟩ := e
      rw [hl.lwu v m e]
      have h3 := way_lt h h2.toInv1 ht (hup v m e)
      have h4 := (h2.low v (h.onWay_row ⟨m, by rw [hs]; simp [hup v m e]⟩)).1
      omega
    · exact hl.lwo v fun m hm => e ⟨m, hm⟩
  have hrow : (t.cut sortf i).row = s.row.take (s.row.idxOf i) := by simp [S.cut, hl.row]
  have row : ∀ v, v ∈ (t.cut sortf i).row ↔ v ∈ s.row ∧ s.wn v < s.wn i := fun v => by
    rw [hrow]; exact (take_idx h h2.toInv1 hm v).1
  have hnr : s.row.Nodup := (List.nodup_append.1 h.nd).1
  have hperm := hso _ (hnr.sublist (List.drop_sublist (s.row.idxOf i) _))
  have part : ∀ v, v ∈ sortf (s.row.drop (s.row.idxOf i)) ↔ v ∈ s.row ∧ s.wn i ≤ s.wn v := fun v => by
    rw [hperm.mem_iff]; exact (take_idx h h2.toInv1 hm v).2
  have hparts : (t.cut sortf i).parts = s.parts ++ [sortf (s.row.drop (s.row.idxOf i))] := by simp [S.cut, hl.row, hl.parts]
  have met : ∀ v, (t.cut sortf i).met v ↔ s.met v := fun v => by
    simp only [S.met, row, hparts, List.flatten_append, List.flatten_cons, List.flatten_nil, List.append_nil, List.mem_append, part]
    constructor
    · rintro (h3 | h3 | h3)
      · exact .inl h3.1
      · exact .inr h3
      · exact .inl h3.1
    · rintro (h3 | h3)
      · rcases Nat.lt_or_ge (s.wn v) (s.wn i) with h4 | h4
        · exact .inl ⟨h3, h4⟩
        · exact .inr (.inr ⟨h3, h4⟩)
      · exact .inr (.inl h3)
  have upedge : ∀ u m, s.way.dropLast.getLast? = some (u, m) → ∃ j, m = j + 1 ∧ j < (nx g u).length ∧ (nx g u).getD j 0 = i := fun u m hu => by
    have := h2.chain
    rw [hs] at this
    exact this.mid hu
  have hiw : s.onWay i := ⟨k, by rw [hs]; simp⟩
  -- edges from the segment
  have edge : ∀ v, v ∈ s.row → s.wn i ≤ s.wn v → ∀ x ∈ nx g v, s.met x ∧ (x ∈ s.row → s.wn i ≤ s.wn x) := fun v hv hle x hx => by
    by_cases e : v = i
    · subst e
      obtain ⟨j, hj, rfl⟩ := List.mem_iff_getElem.1 hx
      have := h2.top v k ht j (by omega)
      simp only [List.getD_eq_getElem?_getD, List.getElem?_eq_getElem hj, Option.getD_some] at this
      exact ⟨this.1, fun hr => by have := this.2 hr; omega⟩
    · have hlt : s.wn i < s.wn v := by
        rcases Nat.lt_or_ge (s.wn i) (s.wn v) with h3 | h3
        · exact h3
        · exact absurd (h.wn_inj h2.toInv1 hv hm (by omega)) e
      obtain ⟨h3, h4⟩ := seg_acc h h2.toInv1 ht hv hlt
      obtain ⟨h5, h6⟩ := h2.seen v hv h4 x hx
      exact ⟨h5, fun hr => by have := h6 hr; omega⟩
  refine ⟨⟨?_, fun v hv => ?_, ?_, ?_, fun v w hv hw hle => ?_, ?_, ?_, fun v hv => ?_, fun v hv hw => ?_, fun v hv hw t' ht2 => ?_, fun v m hm2 j hj => ?_, fun w v hw hv hlt hbet => ?_⟩, fun v m hm2 j hj => ?_⟩
  · rw [hrow]
    exact (h2.inc.sublist (List.take_sublist _ _)).imp fun hab => by rw [wn, wn]; exact hab
  · rw [wn, show (t.cut sortf i).n = s.n from hl.n]
    exact h2.le v ((row v).1 hv).1
  · rw [wayr]
    have := h2.chain
    rw [hs] at this
    exact this.init
  · rw [hrow, wayr]
    have hh := h2.head
    cases hd : s.way.dropLast with
    | nil =>
      rw [hs, hd] at hh
      cases hr : s.row with
      | nil => rfl
      | cons a l =>
        rw [hr] at hh
        simp at hh
        subst hh
        simp
    | cons p l =>
      rw [hs, hd] at hh
      cases hr : s.row with
      | nil => rw [hr] at hh; simp at hh
      | cons a l' =>
        rw [hr] at hh
        simp at hh
        have hp : (p.1, p.2) ∈ s.way.dropLast := by rw [hd]; exact List.mem_cons_self ..
        have h3 := way_lt h h2.toInv1 ht hp
        have hne : a ≠ i := fun e => by rw [← hh, e] at h3; omega
        have hb : (p.1 == i) = false := by rw [← hh]; simpa using hne
        simp [List.idxOf_cons, hh, hb]
  · rw [wn, wn] at hle
    exact h2.reach v w ((row v).1 hv).1 ((onw w).1 hw).1 hle
  · rw [hparts]
    intro j p hp v hv x hx
    rw [List.getElem?_append] at hp
    split at hp
    · obtain ⟨j', p', h3, h4, h5⟩ := h2.ord j p hp v hv x hx
      exact ⟨j', p', h3, by rw [List.getElem?_append_left (List.getElem?_eq_some_iff.1 h4).1]; exact h4, h5⟩
    · rename_i hge
      have hj : j = s.parts.length := by
        have := (List.getElem?_eq_some_iff.1 hp).1
        simp at this
        omega
      subst hj
      simp at hp
      subst hp
      obtain ⟨hv1, hv2⟩ := (part v).1 hv
      obtain ⟨h3, h4⟩ := edge v hv1 hv2 x hx
      by_cases hxr : x ∈ s.row
      · exact ⟨s.parts.length, _, Nat.le_refl _, by simp, (part x).2 ⟨hxr, h4 hxr⟩⟩
      · rcases h3 with h3 | h3
        · exact absurd h3 hxr
        · obtain ⟨p', hp', hx'⟩ := List.mem_flatten.1 h3
          obtain ⟨j', hj', rfl⟩ := List.mem_iff_getElem.1 hp'
          exact ⟨j', _, by omega, by rw [List.getElem?_append_left hj', List.getElem?_eq_getElem hj'], hx'⟩
  · rw [hparts]
    intro p hp
    rcases List.mem_append.1 hp with hp | hp
    · exact h2.conn p hp
    · simp only [List.mem_singleton] at hp
      subst hp
      have him := (part i).2 ⟨hm, Nat.le_refl _⟩
      refine ⟨fun e => by rw [e] at him; simp at him, fun u v hu hv => ?_⟩
      obtain ⟨hu1, hu2⟩ := (part u).1 hu
      obtain ⟨hv1, hv2⟩ := (part v).1 hv
      exact (seg_back h h2.toInv1 ht hroot (s.wn u) u (Nat.le_refl _) hu1 hu2).trans (h2.reach v i hv1 hiw hv2)
  · obtain ⟨hv1, hv2⟩ := (row v).1 hv
    rw [lw, wn]
    obtain ⟨h3, u, hu, h4, h5⟩ := h2.low v hv1
    exact ⟨h3, u, (row u).2 ⟨hu, by omega⟩, by rw [wn]; exact h4, h5⟩
  · obtain ⟨hv1, hv2⟩ := (row v).1 hv
    rw [lw, wn]
    exact h2.done v hv1 fun hh => hw ((onw v).2 ⟨hh, fun e => by rw [e] at hv2; omega⟩)
  · obtain ⟨hv1, hv2⟩ := (row v).1 hv
    rw [lw, wn, met]
    obtain ⟨h3, h4⟩ := h2.seen v hv1 (fun hh => hw ((onw v).2 ⟨hh, fun e => by rw [e] at hv2; omega⟩)) t' ht2
    exact ⟨h3, fun hr => h4 ((row t').1 hr).1⟩
  · rw [wayr] at hm2
    rw [lw, wn, met]
    obtain ⟨h3, h4⟩ := h2.part v m (by rw [hs]; simp [hm2]) j hj
    exact ⟨h3, fun hr => h4 ((row _).1 hr).1⟩
  · obtain ⟨hv1, hv2⟩ := (row v).1 hv
    rw [wn, wn] at hlt
    rw [lw, lw]
    refine h2.acc w v ((onw w).1 hw).1 hv1 hlt fun w' hw' hl' => ?_
    by_cases e : w' = i
    · rw [e]; exact hv2
    · have := hbet w' ((onw w').2 ⟨hw', e⟩) (by rw [wn, wn]; exact hl')
      rwa [wn, wn] at this
  · rw [wayr] at hm2
    rw [lw, wn, met]
    obtain ⟨q, hq, hql, hqi⟩ := upedge v m hm2
    by_cases e : j + 1 < m
    · obtain ⟨h3, h4⟩ := h2.part v m (by rw [hs, getLast_split hm2]; simp) j e
      exact ⟨h3, fun hr => h4 ((row _).1 hr).1⟩
    · obtain rfl : j = q := by omega
      rw [hqi]
      exact ⟨.inl hm, fun hr => by have := ((row i).1 hr).2; omega⟩

theorem Inv2.leave {g : Net} {s : S} {sortf : List Nat → List Nat} (hso : Sorts sortf) (h : Inv g s) (h2 : Inv2 g s) {i k : Nat} (ht : s.way.getLast? = some (i, k)) (hk : k = (nx g i).length) : Inv2 g (s.leave sortf i) := by
  have hl := up_left h h2.toInv1 ht
  have hw : (s.up i).when_.getD i 0 = s.wn i := by rw [hl.when_]; rfl
  have hlw : (s.up i).low.getD i 0 = s.lw i := hl.lwi
  unfold S.leave
  rw [hw, hlw]
  refine Inv2.post ?_ _
  split
  · exact hl.cut2 hso h h2 ht hk (by assumption)
  · exact hl.inv2 h h2 ht hk (by assumption)

theorem set_self {l : List Nat} {i : Nat} (hi : i < l.length) : l.set i (l.getD i 0) = l := by
  apply List.ext_getElem?
  intro j
  rw [List.getElem?_set]
  split
  · rename_i e
    subst e
    simp [hi, List.getD_eq_getElem?_getD]
  · rfl

theorem Inv2.step {g : Net} {s : S} {sortf : List Nat → List Nat} (hso : Sorts sortf) (h : Inv g s) (h2 : Inv2 g s) {i k : Nat} (ht : s.way.getLast? = some (i, k)) : Inv2 g (s.step sortf g i k) := by
  obtain ⟨hm, hi, hk, _⟩ := h.top ht
  unfold S.step
  split
  · exact h2.leave hso h ht (by assumption)
  · rename_i hne
    have hkl : k < (nx g i).length := by omega
    have hto : (nx g i).getD k 0 < g.length := h.rng i _ (nx_mem hkl)
    have hself : s.low.set i (s.lw i) = s.low := set_self (by rw [h.hl]; exact hi)
    dsimp only
    split
    · rename_i h0
      have hb := h2.bump h ht (Nat.le_refl _) (.inl rfl)
      rw [hself] at hb
      exact hb.meet (h.bump ht hne h.hl) hto h0 (.inr ⟨s.way.dropLast, i, k, rfl, hkl, rfl⟩)
    · rename_i h0
      have hmet : s.met ((nx g i).getD k 0) := (h.met_iff hto).1 h0
      split
      · rename_i hon
        have hr := (h.on _ hto).1 hon
        exact h2.bump2 h ht (Nat.min_le_left _ _) (by
          rcases Nat.le_total (s.low.getD i 0) (s.when_.getD ((nx g i).getD k 0) 0) with h3 | h3
          · exact .inl (Nat.min_eq_left h3)
          · exact .inr ⟨hr, hkl, (Nat.min_eq_right h3).symm⟩) ⟨hmet, fun _ => Nat.min_le_right _ _⟩
      · rename_i hon
        have hr : (nx g i).getD k 0 ∉ s.row := fun hr => hon ((h.on _ hto).2 hr)
        have hb := h2.bump2 h ht (Nat.le_refl _) (.inl rfl) ⟨hmet, fun hh => absurd hh hr⟩
        rwa [hself] at hb

theorem Inv2.next {g : Net} {s : S} {sortf : List Nat → List Nat} (hso : Sorts sortf) (h : Inv g s) (h2 : Inv2 g s) (hw : s.way ≠ []) : Inv2 g (s.next sortf g) := by
  obtain ⟨i, k, ht⟩ := way_top hw
  rw [S.next_top ht]
  exact h2.step hso h ht
theorem iter_inv2 {g : Net} {sortf : List Nat → List Nat} (hso : Sorts sortf) : ∀ (n : Nat) (s : S), Inv g s → Inv2 g s → Inv2 g (iter sortf g n s)
  | 0, _, _, h2 => h2
  | n + 1, s, h, h2 => by
    simp only [iter]
    split
    · exact h2
    · rename_i hw
      exact iter_inv2 hso n _ (h.next hso hw).1 (h2.next hso h hw)

theorem init_inv2 (g : Net) : Inv2 g (init g) := by
  constructor
  · constructor <;> simp [init, S.onWay, Chain]
  · simp [init]
theorem upto_inv2 {g : Net} {sortf : List Nat → List Nat} (hso : Sorts sortf) (rng : ∀ i k, k ∈ nx g i → k < g.length) : ∀ k, k ≤ g.length → Inv2 g (upto sortf g k)
  | 0, _ => init_inv2 g
  | k + 1, hk => by
    have h2 := upto_inv2 hso rng k (by omega)
    obtain ⟨h1, hw⟩ := upto_inv hso rng k (by omega)
    rw [upto_succ]
    unfold one
    split
    · rename_i h0
      exact iter_inv2 hso _ _ (h1.meet (by omega) h0) (h2.toInv1.meet h1 (by omega) h0 (.inl hw))
    · exact h2
/-- All nodes below are met. -/
theorem next_met {g : Net} {s : S} {sortf : List Nat → List Nat} {i : Nat} (h0 : s.when_.getD i 0 ≠ 0) : (s.next sortf g).when_.getD i 0 ≠ 0 := by
  have hset : ∀ (l : List Nat) (j x : Nat), x ≠ 0 → l.getD i 0 ≠ 0 → (l.set j x).getD i 0 ≠ 0 := fun l j x hx hl => by
    simp only [List.getD_eq_getElem?_getD, List.getElem?_set] at hl ⊢
    split
    · rename_i e; subst e
      split
      · simpa using hx
      · rename_i hh; simp [List.getElem?_eq_none (Nat.le_of_not_lt hh)] at hl
    · exact hl
  unfold S.next
  split
  · unfold S.step
    split
    · rw [(S.leave_way ..).2]; exact h0
    · dsimp only
      split
      · exact hset _ _ _ (by omega) h0
      · split <;> exact h0
  · exact h0
theorem iter_met {g : Net} {sortf : List Nat → List Nat} {i : Nat} : ∀ (n : Nat) (s : S), s.when_.getD i 0 ≠ 0 → (iter sortf g n s).when_.getD i 0 ≠ 0
  | 0, _, h => h
  | n + 1, s, h => by
    simp only [iter]
    split
    · exact h
    · exact iter_met n _ (next_met h)
theorem upto_met {g : Net} {sortf : List Nat → List Nat} (hso : Sorts sortf) (rng : ∀ i k, k ∈ nx g i → k < g.length) : ∀ k, k ≤ g.length → ∀ i, i < k → (upto sortf g k).when_.getD i 0 ≠ 0
  | 0, _, i, hi => absurd hi (by omega)
  | k + 1, hk, i, hi => by
    obtain ⟨h1, hw⟩ := upto_inv hso rng k (by omega)
    rw [upto_succ]
    unfold one
    split
    · rename_i h0
      refine iter_met _ _ ?_
      show ((upto sortf g k).meet k).wn i ≠ 0
      rw [meet_wn h1 (by omega)]
      split
      · omega
      · exact upto_met hso rng k (by omega) i (by omega)
    · rename_i h0
      by_cases e : i = k
      · rw [e]; exact h0
      · exact upto_met hso rng k (by omega) i (by omega)

/-- What the parts are. -/
structure Parts (g : Net) (l : List (List Nat)) : Prop where
  nd : l.flatten.Nodup
  all : ∀ v, v ∈ l.flatten ↔ v < g.length
  ord : ∀ (j : Nat) (p : List Nat), l[j]? = some p → ∀ v ∈ p, ∀ t ∈ nx g v, ∃ j' p', j' ≤ j ∧ l[j']? = some p' ∧ t ∈ p'
  conn : ∀ p ∈ l, p ≠ [] ∧ ∀ u v, u ∈ p → v ∈ p → Path g u v

theorem partsF_parts {g : Net} {sortf : List Nat → List Nat} (hso : Sorts sortf) (rng : ∀ i k, k ∈ nx g i → k < g.length) : Parts g (partsF sortf g) := by
  obtain ⟨h, hw⟩ := upto_inv hso rng g.length (Nat.le_refl _)
  have h2 := upto_inv2 hso rng g.length (Nat.le_refl _)
  have hrow : (upto sortf g g.length).row = [] := by
    have := h2.head
    rw [hw] at this
    simpa using this
  refine ⟨(partsF_ok hso rng).1, fun v => ⟨(partsF_ok hso rng).2 v, fun hv => ?_⟩, h2.ord, h2.conn⟩
  have := (h.met v hv).1 (upto_met hso rng g.length (Nat.le_refl _) v hv)
  rw [hrow] at this
  exact this
end Go.Tar

/- The search for parts, in plain Lean: in which order they come. -/
namespace Go.Tar

/-- A search in depth: which nodes are met, which are left, in their order. -/
inductive Dfs (g : Net) : List Nat → List Bool → List Nat → List Bool → List Nat → Prop
  | nil (m l) : Dfs g [] m l m l
  | skip {k ks m l m' l'} (h : m.getD k false = true) (t : Dfs g ks m l m' l') : Dfs g (k :: ks) m l m' l'
  | go {k ks m l m1 l1 m' l'} (h : m.getD k false = false) (a : Dfs g (nx g k) (m.set k true) l m1 l1) (t : Dfs g ks m1 (l1 ++ [k]) m' l') : Dfs g (k :: ks) m l m' l'

theorem Dfs.det {g : Net} {ks m l m1 l1 m2 l2} (h : Dfs g ks m l m1 l1) (k : Dfs g ks m l m2 l2) : m1 = m2 ∧ l1 = l2 := by
  induction h generalizing m2 l2 with
  | nil => cases k; exact ⟨rfl, rfl⟩
  | skip h t ih =>
    cases k with
    | skip h' t' => exact ih t'
    | go h' => rw [h] at h'; cases h'
  | go h a t iha iht =>
    cases k with
    | skip h' => rw [h] at h'; cases h'
    | go h' a' t' =>
      obtain ⟨rfl, rfl⟩ := iha a'
      exact iht t'
theorem Dfs.app {g : Net} {a b m l m1 l1 m2 l2} (h : Dfs g a m l m1 l1) (k : Dfs g b m1 l1 m2 l2) : Dfs g (a ++ b) m l m2 l2 := by
  induction h with
  | nil => exact k
  | skip h t ih => exact .skip h (ih k)
  | go h a t _ iht => exact .go h a (iht k)

def S.vis (s : S) : List Bool := s.when_.map fun n => decide (n ≠ 0)
theorem vis_get (s : S) (v : Nat) : s.vis.getD v false = decide (s.when_.getD v 0 ≠ 0) := by
  simp only [S.vis, List.getD_eq_getElem?_getD, List.getElem?_map]
  cases s.when_[v]? <;> simp
theorem vis_meet (s : S) (i : Nat) : (s.meet i).vis = s.vis.set i true := by simp [S.vis, S.meet, List.map_set]

theorem leave_post (sortf : List Nat → List Nat) (s : S) (i : Nat) : (s.leave sortf i).post = s.post ++ [i] := rfl
theorem leave_vis (sortf : List Nat → List Nat) (s : S) (i : Nat) : (s.leave sortf i).vis = s.vis := by simp [S.vis, (S.leave_way sortf s i).2]

theorem sim {g : Net} {sortf : List Nat → List Nat} (hso : Sorts sortf) : ∀ (n : Nat) (s : S) (W : List (Nat × Nat)) (i k : Nat), Inv g s → s.mu g ≤ n → s.way = W ++ [(i, k)] →
    ∃ s' m1 l1, Inv g s' ∧ s'.mu g < s.mu g ∧ s'.way = W ∧ fin sortf g s' = fin sortf g s ∧ Dfs g ((nx g i).drop k) s.vis s.post m1 l1 ∧ s'.vis = m1 ∧ s'.post = l1 ++ [i]
  | n, s, W, i, k, h, hn, hw => by
    have ht : s.way.getLast? = some (i, k) := by rw [hw]; simp
    have hdrop : s.way.dropLast = W := by rw [hw]; simp
    have hne : s.way ≠ [] := by rw [hw]; simp
    obtain ⟨hm, hi, hk, _⟩ := h.top ht
    have hI := h.step hso ht
    have hmu := mu_step (sortf := sortf) h ht
    have hfin := fin_next hso h hne
    rw [S.next_top ht] at hfin
    by_cases hkl : k = (nx g i).length
    · have hst : s.step sortf g i k = s.leave sortf i := by unfold S.step; rw [if_pos hkl]
      rw [hst] at hI hmu hfin
      refine ⟨s.leave sortf i, s.vis, s.post, hI, hmu, by rw [(S.leave_way ..).1, hdrop], hfin, ?_, leave_vis .., leave_post ..⟩
      rw [hkl, List.drop_length]
      exact .nil _ _
    · have hlt : k < (nx g i).length := by omega
      have hd : (nx g i).drop k = (nx g i).getD k 0 :: (nx g i).drop (k + 1) := by
        rw [List.drop_eq_getElem_cons hlt, List.getD_eq_getElem?_getD, List.getElem?_eq_getElem hlt, Option.getD_some]
      match n with
      | 0 => omega
      | n + 1 =>
        by_cases h0 : s.when_.getD ((nx g i).getD k 0) 0 = 0
        · have hst : s.step sortf g i k = S.meet { s with way := s.way.dropLast ++ [(i, k + 1)] } ((nx g i).getD k 0) := by
            unfold S.step
            rw [if_neg hkl]
            dsimp only
            rw [if_pos h0]
          obtain ⟨s1, m1, l1, a1, a2, a3, a4, a5, a6, a7⟩ := sim hso n (s.step sortf g i k) (W ++ [(i, k + 1)]) ((nx g i).getD k 0) 0 hI (by omega) (by rw [hst]; simp [S.meet, hdrop])
          obtain ⟨s2, m2, l2, b1, b2, b3, b4, b5, b6, b7⟩ := sim hso n s1 W i (k + 1) a1 (by omega) a3
          refine ⟨s2, m2, l2, b1, by omega, b3, b4.trans (a4.trans hfin), ?_, b6, b7⟩
          rw [hd]
          refine .go (m1 := m1) (l1 := l1) ?_ ?_ ?_
          · rw [vis_get]; simp only [h0]; rfl
          · rw [List.drop_zero, hst, vis_meet] at a5
            exact a5
          · rw [a6, a7] at b5
            exact b5
        · have hst : (s.step sortf g i k).way = W ++ [(i, k + 1)] ∧ (s.step sortf g i k).vis = s.vis ∧ (s.step sortf g i k).post = s.post := by
            unfold S.step
            rw [if_neg hkl]
            dsimp only
            rw [if_neg h0]
            split
            · exact ⟨by rw [hdrop], rfl, rfl⟩
            · exact ⟨by rw [hdrop], rfl, rfl⟩
          obtain ⟨s2, m2, l2, b1, b2, b3, b4, b5, b6, b7⟩ := sim hso n (s.step sortf g i k) W i (k + 1) hI (by omega) hst.1
          refine ⟨s2, m2, l2, b1, by omega, b3, b4.trans hfin, ?_, b6, b7⟩
          rw [hd]
          refine .skip ?_ (by rw [hst.2.1, hst.2.2] at b5; exact b5)
          rw [vis_get]
          simpa using h0

theorem one_dfs {g : Net} {sortf : List Nat → List Nat} (hso : Sorts sortf) {s : S} (h : Inv g s) (hw : s.way = []) {i : Nat} (hi : i < g.length) : Dfs g [i] s.vis s.post (one sortf g s i).vis (one sortf g s i).post := by
  unfold one
  split
  · rename_i h0
    obtain ⟨s', m1, l1, a1, a2, a3, a4, a5, a6, a7⟩ := sim hso _ (s.meet i) [] i 0 (h.meet hi h0) (Nat.le_refl _) (by simp [S.meet, hw])
    rw [fin_end a3] at a4
    rw [← a4, a6, a7]
    rw [List.drop_zero, vis_meet] at a5
    refine .go ?_ a5 (.nil _ _)
    rw [vis_get]; simp only [h0]; rfl
  · rename_i h0
    refine .skip ?_ (.nil _ _)
    rw [vis_get]; simpa using h0
theorem upto_dfs {g : Net} {sortf : List Nat → List Nat} (hso : Sorts sortf) (rng : ∀ i k, k ∈ nx g i → k < g.length) : ∀ k, k ≤ g.length → Dfs g (List.range k) (List.replicate g.length false) [] (upto sortf g k).vis (upto sortf g k).post
  | 0, _ => by
    have : (upto sortf g 0).vis = List.replicate g.length false := by simp [upto, init, S.vis]
    rw [this]
    exact .nil _ _
  | k + 1, hk => by
    obtain ⟨h1, hw⟩ := upto_inv hso rng k (by omega)
    rw [upto_succ, List.range_succ]
    exact (upto_dfs hso rng k (by omega)).app (one_dfs hso h1 hw (by omega))

/-- The order of the parts: by the node that is left last. -/
inductive Roots (post : List Nat) : List Nat → List (List Nat) → Prop
  | nil : Roots post [] []
  | snoc {rs ps r p} (t : Roots post rs ps) (h : r ∈ p) (hl : ∀ v ∈ p, v ∈ post ∧ post.idxOf v ≤ post.idxOf r) : Roots post (rs ++ [r]) (ps ++ [p])
theorem Roots.mono {post rs ps} (h : Roots post rs ps) (l : List Nat) : Roots (post ++ l) rs ps := by
  induction h with
  | nil => exact .nil
  | snoc t h hl ih =>
    refine .snoc ih h fun v hv => ?_
    obtain ⟨h1, h2⟩ := hl v hv
    have hr := (hl _ h).1
    refine ⟨List.mem_append_left _ h1, ?_⟩
    rw [List.idxOf_append, List.idxOf_append, if_pos h1, if_pos hr]
    exact h2
structure Inv3 (s : S) : Prop where
  nd : s.post.Nodup
  mem : ∀ v, v ∈ s.post ↔ s.met v ∧ ¬ s.onWay v
  roots : ∃ rs, rs.Sublist s.post ∧ Roots s.post rs s.parts

theorem Inv3.same {s t : S} (h : Inv3 s) (hp : t.post = s.post) (hr : t.parts = s.parts) (hm : ∀ v, t.met v ∧ ¬ t.onWay v ↔ s.met v ∧ ¬ s.onWay v) : Inv3 t := by
  refine ⟨by rw [hp]; exact h.nd, fun v => by rw [hp, h.mem, hm], ?_⟩
  rw [hp, hr]; exact h.roots
theorem Inv3.meet {g : Net} {s : S} (h : Inv g s) (h3 : Inv3 s) {i : Nat} (hi : i < g.length) (h0 : s.wn i = 0) : Inv3 (s.meet i) := by
  have hnm : ¬ s.met i := fun hm => ((h.met_iff hi).2 hm) h0
  refine h3.same rfl rfl fun v => ?_
  simp only [S.met, S.onWay, S.meet, List.mem_append, List.mem_singleton, Prod.mk.injEq]
  constructor
  · rintro ⟨h1, h2⟩
    have hvi : v ≠ i := fun e => h2 ⟨0, .inr ⟨e, rfl⟩⟩
    refine ⟨?_, fun ⟨k, hk⟩ => h2 ⟨k, .inl hk⟩⟩
    rcases h1 with (h1 | h1) | h1
    · exact .inl h1
    · exact absurd h1 hvi
    · exact .inr h1
  · rintro ⟨h1, h2⟩
    have hvi : v ≠ i := fun e => hnm (e ▸ h1)
    refine ⟨?_, fun ⟨k, hk⟩ => ?_⟩
    · rcases h1 with h1 | h1
      · exact .inl (.inl h1)
      · exact .inr h1
    · rcases hk with hk | hk
      · exact h2 ⟨k, hk⟩
      · exact hvi hk.1
theorem onWay_bump {s : S} {i k k' : Nat} (ht : s.way.getLast? = some (i, k)) (v : Nat) : (∃ m, (v, m) ∈ s.way.dropLast ++ [(i, k')]) ↔ s.onWay v := by
  have hs := getLast_split ht
  simp only [S.onWay]
  conv => rhs; rw [hs]
  simp only [List.mem_append, List.mem_singleton, Prod.mk.injEq]
  constructor
  · rintro ⟨m, hm | hm⟩
    · exact ⟨m, .inl hm⟩
    · exact ⟨k, .inr ⟨hm.1, rfl⟩⟩
  · rintro ⟨m, hm | hm⟩
    · exact ⟨m, .inl hm⟩
    · exact ⟨k', .inr ⟨hm.1, rfl⟩⟩

theorem Inv3.leave {g : Net} {s : S} {sortf : List Nat → List Nat} (hso : Sorts sortf) (h : Inv g s) (h2 : Inv2 g s) (h3 : Inv3 s) {i k : Nat} (ht : s.way.getLast? = some (i, k)) : Inv3 (s.leave sortf i) := by
  have hs := getLast_split ht
  obtain ⟨hm, hi, _, _⟩ := h.top ht
  have hl := up_left h h2.toInv1 ht
  have hiw : s.onWay i := ⟨k, by rw [hs]; simp⟩
  have hip : i ∉ s.post := fun hh => ((h3.mem i).1 hh).2 hiw
  have hnd : (s.post ++ [i]).Nodup := by
    rw [List.nodup_append]
    exact ⟨h3.nd, by simp, fun a ha b hb => by simp at hb; subst hb; exact fun e => hip (e ▸ ha)⟩
  have onw : ∀ v, (∃ m, (v, m) ∈ s.way.dropLast) ↔ s.onWay v ∧ v ≠ i := fun v => by
    simp only [S.onWay]
    constructor
    · rintro ⟨m, hm⟩
      exact ⟨⟨m, by rw [hs]; simp [hm]⟩, fun e => by have := way_lt h h2.toInv1 ht hm; rw [e] at this; omega⟩
    · rintro ⟨⟨m, hm⟩, hne⟩
      rw [hs] at hm
      rcases List.mem_append.1 hm with hm | hm
      · exact ⟨m, hm⟩
      · simp only [List.mem_singleton, Prod.mk.injEq] at hm
        exact absurd hm.1 hne
  obtain ⟨rs, hrs, hroots⟩ := h3.roots
  have way : (s.leave sortf i).way = s.way.dropLast := (S.leave_way sortf s i).1
  have met : ∀ v, (s.leave sortf i).met v ↔ s.met v := fun v => by
    have hI := h.leave hso ht
    have hw := (S.leave_way sortf s i).2
    by_cases hv : v < g.length
    · rw [← h.met_iff hv, ← hI.met_iff hv]
      simp only [S.wn, hw]
    · exact ⟨fun hh => absurd (hI.met_lt hh) hv, fun hh => absurd (h.met_lt hh) hv⟩
  have hmem : ∀ v, v ∈ s.post ++ [i] ↔ (s.leave sortf i).met v ∧ ¬ (s.leave sortf i).onWay v := fun v => by
    rw [met, List.mem_append, List.mem_singleton, h3.mem]
    have : (s.leave sortf i).onWay v ↔ s.onWay v ∧ v ≠ i := by
      rw [← onw]; unfold S.onWay; rw [way]
    rw [this]
    constructor
    · rintro (⟨h4, h5⟩ | rfl)
      · exact ⟨h4, fun h6 => h5 h6.1⟩
      · exact ⟨.inl hm, fun h6 => h6.2 rfl⟩
    · rintro ⟨h4, h5⟩
      by_cases e : v = i
      · exact .inr e
      · exact .inl ⟨h4, fun h6 => h5 ⟨h6, e⟩⟩
  have hw : (s.up i).when_.getD i 0 = s.wn i := by rw [hl.when_]; rfl
  have hlw : (s.up i).low.getD i 0 = s.lw i := hl.lwi
  have hidx : ∀ v, v ∈ s.post ++ [i] → (s.post ++ [i]).idxOf v ≤ (s.post ++ [i]).idxOf i := fun v hv => by
    rw [List.idxOf_append, List.idxOf_append, if_neg hip]
    split
    · rename_i hv; have := List.idxOf_lt_length_of_mem hv; omega
    · rename_i hv2
      simp [hv2] at hv
      rw [hv]; exact Nat.le_refl _
  refine ⟨hnd, hmem, ?_⟩
  show ∃ rs, rs.Sublist (s.post ++ [i]) ∧ Roots (s.post ++ [i]) rs (s.leave sortf i).parts
  unfold S.leave
  rw [hw, hlw]
  split
  · rename_i hroot
    refine ⟨rs ++ [i], hrs.append (List.Sublist.refl _), ?_⟩
    show Roots _ _ ((s.up i).cut sortf i).parts
    have hparts : ((s.up i).cut sortf i).parts = s.parts ++ [sortf (s.row.drop (s.row.idxOf i))] := by simp [S.cut, hl.row, hl.parts]
    rw [hparts]
    have hnr : s.row.Nodup := (List.nodup_append.1 h.nd).1
    have hperm := hso _ (hnr.sublist (List.drop_sublist (s.row.idxOf i) _))
    have part : ∀ v, v ∈ sortf (s.row.drop (s.row.idxOf i)) ↔ v ∈ s.row ∧ s.wn i ≤ s.wn v := fun v => by
      rw [hperm.mem_iff]; exact (take_idx h h2.toInv1 hm v).2
    refine .snoc (hroots.mono _) ((part i).2 ⟨hm, Nat.le_refl _⟩) fun v hv => ?_
    obtain ⟨hv1, hv2⟩ := (part v).1 hv
    have hvp : v ∈ s.post ++ [i] := by
      by_cases e : v = i
      · rw [e]; simp
      · have hlt : s.wn i < s.wn v := by
          rcases Nat.lt_or_ge (s.wn i) (s.wn v) with h4 | h4
          · exact h4
          · exact absurd (h.wn_inj h2.toInv1 hv1 hm (by omega)) e
        exact List.mem_append_left _ ((h3.mem v).2 ⟨.inl hv1, (seg_acc h h2.toInv1 ht hv1 hlt).2⟩)
    exact ⟨hvp, hidx v hvp⟩
  · refine ⟨rs, hrs.trans (List.sublist_append_left _ _), ?_⟩
    show Roots _ _ (s.up i).parts
    rw [hl.parts]
    exact hroots.mono _

theorem Inv3.next {g : Net} {s : S} {sortf : List Nat → List Nat} (hso : Sorts sortf) (h : Inv g s) (h2 : Inv2 g s) (h3 : Inv3 s) (hw : s.way ≠ []) : Inv3 (s.next sortf g) := by
  obtain ⟨i, k, ht⟩ := way_top hw
  rw [S.next_top ht]
  obtain ⟨hm, hi, hk, _⟩ := h.top ht
  unfold S.step
  split
  · exact h3.leave hso h h2 ht
  · rename_i hne
    have hto : (nx g i).getD k 0 < g.length := h.rng i _ (nx_mem (by omega))
    have hb : ∀ low : List Nat, Inv3 { s with way := s.way.dropLast ++ [(i, k + 1)], low := low } := fun low => h3.same rfl rfl fun v => by
      rw [show S.onWay { s with way := s.way.dropLast ++ [(i, k + 1)], low := low } v ↔ s.onWay v from onWay_bump ht v]
      rfl
    dsimp only
    split
    · exact (hb s.low).meet (h.bump ht hne h.hl) hto (by assumption)
    · split
      · exact hb _
      · exact hb s.low
theorem iter_inv3 {g : Net} {sortf : List Nat → List Nat} (hso : Sorts sortf) : ∀ (n : Nat) (s : S), Inv g s → Inv2 g s → Inv3 s → Inv3 (iter sortf g n s)
  | 0, _, _, _, h3 => h3
  | n + 1, s, h, h2, h3 => by
    simp only [iter]
    split
    · exact h3
    · rename_i hw
      exact iter_inv3 hso n _ (h.next hso hw).1 (h2.next hso h hw) (h3.next hso h h2 hw)
theorem init_inv3 (g : Net) : Inv3 (init g) := by
  refine ⟨by simp [init], fun v => by simp [init, S.met], [], by simp [init], .nil⟩
theorem upto_inv3 {g : Net} {sortf : List Nat → List Nat} (hso : Sorts sortf) (rng : ∀ i k, k ∈ nx g i → k < g.length) : ∀ k, k ≤ g.length → Inv3 (upto sortf g k)
  | 0, _ => init_inv3 g
  | k + 1, hk => by
    have h3 := upto_inv3 hso rng k (by omega)
    have h2 := upto_inv2 hso rng k (by omega)
    obtain ⟨h1, hw⟩ := upto_inv hso rng k (by omega)
    rw [upto_succ]
    unfold one
    split
    · rename_i h0
      exact iter_inv3 hso _ _ (h1.meet (by omega) h0) (h2.toInv1.meet h1 (by omega) h0 (.inl hw)) (h3.meet h1 (by omega) h0)
    · exact h3

/-- The parts and their order, by a search in depth. -/
theorem partsF_order {g : Net} {sortf : List Nat → List Nat} (hso : Sorts sortf) (rng : ∀ i k, k ∈ nx g i → k < g.length) : ∃ m post rs, Dfs g (List.range g.length) (List.replicate g.length false) [] m post ∧ post.Nodup ∧ (∀ v, v ∈ post ↔ v < g.length) ∧ rs.Sublist post ∧ Roots post rs (partsF sortf g) := by
  obtain ⟨h, hw⟩ := upto_inv hso rng g.length (Nat.le_refl _)
  have h3 := upto_inv3 hso rng g.length (Nat.le_refl _)
  obtain ⟨rs, h4, h5⟩ := h3.roots
  refine ⟨_, _, rs, upto_dfs hso rng g.length (Nat.le_refl _), h3.nd, fun v => ?_, h4, h5⟩
  rw [h3.mem]
  constructor
  · exact fun hh => h.met_lt hh.1
  · intro hv
    refine ⟨(h.met_iff hv).1 (upto_met hso rng g.length (Nat.le_refl _) v hv), fun ⟨m, hm⟩ => ?_⟩
    rw [hw] at hm
    simp at hm
end Go.Tar

/- The parts by the document: by who reaches whom, in the order of a search in depth. -/
namespace Go.Tar

theorem sub_filter {l' l : List Nat} (h : l'.Sublist l) (p : Nat → Bool) : l.Nodup → (∀ v ∈ l, p v = true ↔ v ∈ l') → l' = l.filter p := by
  induction h with
  | slnil => simp
  | cons a h ih =>
    intro nd hp
    rw [List.nodup_cons] at nd
    have ha : p a = false := by
      rw [Bool.eq_false_iff]
      intro hh
      exact nd.1 (h.subset ((hp a (List.mem_cons_self ..)).1 hh))
    rw [List.filter_cons, ha]
    exact ih nd.2 fun v hv => hp v (List.mem_cons_of_mem _ hv)
  | cons_cons a h ih =>
    intro nd hp
    rw [List.nodup_cons] at nd
    have ha : p a = true := (hp a (List.mem_cons_self ..)).2 (List.mem_cons_self ..)
    rw [List.filter_cons, ha]
    simp only [if_true]
    rw [← ih nd.2 fun v hv => ?_]
    have hne : v ≠ a := fun e => nd.1 (e ▸ hv)
    have := hp v (List.mem_cons_of_mem _ hv)
    rw [this, List.mem_cons]
    simp [hne]

/-- Ascending lists with the same members are the same. -/
theorem asc_eq : ∀ {a b : List Nat}, a.Pairwise (· < ·) → b.Pairwise (· < ·) → (∀ v, v ∈ a ↔ v ∈ b) → a = b
  | [], [], _, _, _ => rfl
  | [], y :: b, _, _, h => absurd ((h y).2 (List.mem_cons_self ..)) (by simp)
  | x :: a, [], _, _, h => absurd ((h x).1 (List.mem_cons_self ..)) (by simp)
  | x :: a, y :: b, ha, hb, h => by
    rw [List.pairwise_cons] at ha hb
    have hxy : x = y := by
      have h1 := (h x).1 (List.mem_cons_self ..)
      have h2 := (h y).2 (List.mem_cons_self ..)
      rcases List.mem_cons.1 h1 with h1 | h1
      · exact h1
      · rcases List.mem_cons.1 h2 with h2 | h2
        · exact h2.symm
        · have := ha.1 y h2; have := hb.1 x h1; omega
    subst hxy
    congr 1
    refine asc_eq ha.2 hb.2 fun v => ?_
    constructor
    · intro hv
      rcases List.mem_cons.1 ((h v).1 (List.mem_cons_of_mem _ hv)) with e | e
      · have := ha.1 v hv; omega
      · exact e
    · intro hv
      rcases List.mem_cons.1 ((h v).2 (List.mem_cons_of_mem _ hv)) with e | e
      · have := hb.1 v hv; omega
      · exact e

/-- A way of one edge or more. -/
def PathP (g : Net) (a b : Nat) : Prop := ∃ c, c ∈ nx g a ∧ Path g c b
theorem PathP.path {g : Net} {a b : Nat} (h : PathP g a b) : Path g a b := let ⟨_, h1, h2⟩ := h; .step h1 h2
theorem Path.pathP {g : Net} {a b : Nat} (h : Path g a b) (hne : a ≠ b) : PathP g a b := by
  cases h with
  | refl => exact absurd rfl hne
  | step h t => exact ⟨_, h, t⟩

theorem Parts.same {g : Net} {l : List (List Nat)} (h : Parts g l) {j j' : Nat} {p p' : List Nat} (hj : l[j]? = some p) (hj' : l[j']? = some p') {v : Nat} (hv : v ∈ p) (hv' : v ∈ p') : j = j' := by
  have hnd := h.nd
  clear h
  induction l generalizing j j' with
  | nil => simp at hj
  | cons a l ih =>
    rw [List.flatten_cons, List.nodup_append] at hnd
    cases j with
    | zero =>
      cases j' with
      | zero => rfl
      | succ j' =>
        simp at hj hj'
        subst hj
        exact absurd rfl (hnd.2.2 v hv v (List.mem_flatten.2 ⟨p', List.mem_of_getElem? hj', hv'⟩))
    | succ j =>
      cases j' with
      | zero =>
        simp at hj hj'
        subst hj'
        exact absurd rfl (hnd.2.2 v hv' v (List.mem_flatten.2 ⟨p, List.mem_of_getElem? hj, hv⟩))
      | succ j' =>
        simp at hj hj'
        rw [ih hj hj' hnd.2.1]
theorem Parts.path_le {g : Net} {l : List (List Nat)} (h : Parts g l) {a b : Nat} (hp : Path g a b) : ∀ {j j' : Nat} {p p' : List Nat}, l[j]? = some p → l[j']? = some p' → a ∈ p → b ∈ p' → j' ≤ j := by
  induction hp with
  | refl => intro j j' p p' h1 h2 h3 h4; rw [h.same h1 h2 h3 h4]; exact Nat.le_refl _
  | step he t ih =>
    intro j j' p p' h1 h2 h3 h4
    obtain ⟨j2, p2, h5, h6, h7⟩ := h.ord j p h1 _ h3 _ he
    exact Nat.le_trans (ih h6 h2 h7 h4) h5
theorem Parts.has {g : Net} {l : List (List Nat)} (h : Parts g l) {v : Nat} (hv : v < g.length) : ∃ (j : Nat) (p : List Nat), l[j]? = some p ∧ v ∈ p := by
  obtain ⟨p, hp, hvp⟩ := List.mem_flatten.1 ((h.all v).2 hv)
  obtain ⟨j, hj, rfl⟩ := List.mem_iff_getElem.1 hp
  exact ⟨j, _, List.getElem?_eq_getElem hj, hvp⟩
/-- In one part: who reach one another. -/
theorem Parts.iff {g : Net} {l : List (List Nat)} (h : Parts g l) {p : List Nat} (hp : p ∈ l) {v k : Nat} (hv : v ∈ p) (hk : k < g.length) : k ∈ p ↔ k = v ∨ PathP g k v ∧ PathP g v k := by
  constructor
  · intro hkp
    by_cases e : k = v
    · exact .inl e
    · exact .inr ⟨((h.conn p hp).2 k v hkp hv).pathP e, ((h.conn p hp).2 v k hv hkp).pathP (Ne.symm e)⟩
  · rintro (rfl | ⟨h1, h2⟩)
    · exact hv
    · obtain ⟨j, hj, rfl⟩ := List.mem_iff_getElem.1 hp
      obtain ⟨j', p', h3, h4⟩ := h.has hk
      have e1 := h.path_le h1.path h3 (List.getElem?_eq_getElem hj) h4 hv
      have e2 := h.path_le h2.path (List.getElem?_eq_getElem hj) h3 hv h4
      obtain rfl : j = j' := by omega
      rw [List.getElem?_eq_getElem hj] at h3
      cases h3
      exact h4

/-- The document's list, off the order of a search in depth. -/
def outF (scc : Nat → List Nat) : List Nat → List (List Nat)
  | [] => []
  | v :: rest => (if (scc v).all fun k => !rest.contains k then [scc v] else []) ++ outF scc rest
theorem outF_eq (scc : Nat → List Nat) (all : List Nat) (nd : all.Nodup) (hs : ∀ v ∈ all, ∀ k ∈ scc v, k ∈ all) : ∀ (l1 l2 : List Nat), all = l1 ++ l2 → outF scc l2 = (l2.filter fun v => (scc v).all fun k => decide (all.idxOf k ≤ all.idxOf v)).map scc
  | _, [], _ => rfl
  | l1, v :: rest, e => by
    have ih := outF_eq scc all nd hs (l1 ++ [v]) rest (by rw [e]; simp)
    have nd' := nd
    rw [e, List.nodup_append, List.nodup_cons] at nd'
    have hv1 : v ∉ l1 := fun h => nd'.2.2 v h v (List.mem_cons_self ..) rfl
    have hidv : all.idxOf v = l1.length := by rw [e, List.idxOf_append, if_neg hv1]; simp
    have hcond : ((scc v).all fun k => !rest.contains k) = ((scc v).all fun k => decide (all.idxOf k ≤ all.idxOf v)) := by
      rw [Bool.eq_iff_iff, List.all_eq_true, List.all_eq_true]
      refine forall_congr' fun k => ?_
      refine imp_congr_right fun hk => ?_
      have hka := hs v (by rw [e]; simp) k hk
      rw [hidv]
      simp only [Bool.not_eq_true', decide_eq_true_eq, List.contains_eq_mem, decide_eq_false_iff_not]
      rw [e] at hka ⊢
      rw [List.idxOf_append]
      constructor
      · intro hn
        split
        · rename_i h; exact Nat.le_of_lt (List.idxOf_lt_length_of_mem h)
        · rename_i h
          have : k = v := by
            rcases List.mem_append.1 hka with h1 | h1
            · exact absurd h1 h
            · rcases List.mem_cons.1 h1 with h1 | h1
              · exact h1
              · exact absurd h1 hn
          subst this
          simp
      · intro hle hk
        have h1 : k ∉ l1 := fun h => nd'.2.2 k h k (List.mem_cons_of_mem _ hk) rfl
        have h2 : k ≠ v := fun e => nd'.2.1.1 (e ▸ hk)
        rw [if_neg h1, List.idxOf_cons] at hle
        have h3 : (v == k) = false := by simpa using Ne.symm h2
        rw [h3] at hle
        simp only [cond_false] at hle
        omega
    rw [outF, hcond, ih, List.filter_cons]
    split <;> simp

theorem Roots.mem {post rs ps} (h : Roots post rs ps) : ∀ r ∈ rs, ∃ p ∈ ps, r ∈ p ∧ ∀ v ∈ p, v ∈ post ∧ post.idxOf v ≤ post.idxOf r := by
  induction h with
  | nil => simp
  | snoc t h hl ih =>
    intro r hr
    rcases List.mem_append.1 hr with hr | hr
    · obtain ⟨p, hp, h1⟩ := ih r hr
      exact ⟨p, List.mem_append_left _ hp, h1⟩
    · simp only [List.mem_singleton] at hr
      subst hr
      exact ⟨_, by simp, h, hl⟩
theorem Roots.of_part {post rs ps} (h : Roots post rs ps) : ∀ p ∈ ps, ∃ r ∈ rs, r ∈ p ∧ ∀ v ∈ p, v ∈ post ∧ post.idxOf v ≤ post.idxOf r := by
  induction h with
  | nil => simp
  | snoc t h hl ih =>
    intro p hp
    rcases List.mem_append.1 hp with hp | hp
    · obtain ⟨r, hr, h1⟩ := ih p hp
      exact ⟨r, List.mem_append_left _ hr, h1⟩
    · simp only [List.mem_singleton] at hp
      subst hp
      exact ⟨_, by simp, h, hl⟩
theorem Roots.map {post rs ps} (h : Roots post rs ps) (scc : Nat → List Nat) (hs : ∀ p ∈ ps, ∀ r ∈ p, scc r = p) : rs.map scc = ps := by
  induction h with
  | nil => rfl
  | snoc t h hl ih =>
    rw [List.map_append, ih fun p hp => hs p (List.mem_append_left _ hp)]
    simp only [List.map_cons, List.map_nil]
    rw [hs _ (by simp) _ h]

theorem idxOf_inj {l : List Nat} {a b : Nat} (ha : a ∈ l) (hb : b ∈ l) (h : l.idxOf a = l.idxOf b) : a = b := by
  have h1 := List.getElem_idxOf (List.idxOf_lt_length_of_mem ha)
  have h2 := List.getElem_idxOf (List.idxOf_lt_length_of_mem hb)
  rw [← h1, ← h2]
  simp only [h]

theorem order_eq {g : Net} {parts : List (List Nat)} {post rs : List Nat} (hp : Parts g parts) (hr : Roots post rs parts) (hsub : rs.Sublist post) (nd : post.Nodup) (hmem : ∀ v, v ∈ post ↔ v < g.length)
    (scc : Nat → List Nat) (hscc : ∀ p ∈ parts, ∀ v ∈ p, scc v = p) : outF scc post = parts := by
  have hin : ∀ v ∈ post, ∀ k ∈ scc v, k ∈ post := fun v hv k hk => by
    obtain ⟨j, p, h1, h2⟩ := hp.has ((hmem v).1 hv)
    have hpm := List.mem_of_getElem? h1
    rw [hscc p hpm v h2] at hk
    exact (hmem k).2 ((hp.all k).1 (List.mem_flatten.2 ⟨p, hpm, hk⟩))
  rw [outF_eq scc post nd hin [] post rfl, ← sub_filter hsub _ nd ?_]
  · exact hr.map scc hscc
  · intro v hv
    rw [List.all_eq_true]
    simp only [decide_eq_true_eq]
    constructor
    · intro hall
      obtain ⟨j, p, h1, h2⟩ := hp.has ((hmem v).1 hv)
      have hpm := List.mem_of_getElem? h1
      obtain ⟨r, hrm, h3, h4⟩ := hr.of_part p hpm
      have h5 := hall r (by rw [hscc p hpm v h2]; exact h3)
      have h6 := (h4 v h2).2
      rw [idxOf_inj hv (h4 r h3).1 (by omega)]
      exact hrm
    · intro hvr k hk
      obtain ⟨p, hpm, h1, h2⟩ := hr.mem v hvr
      rw [hscc p hpm v h1] at hk
      exact (h2 k hk).2
end Go.Tar

/- Lists put in order, each number once, in plain Lean. -/
namespace Go.Tar
open Go.Lib

def canonI (zs : List Int) : List Int := compact (zs.mergeSort fun x y => decide (x ≤ y))

theorem upto_spec (d : Array Int) (hs : ∀ i j, i ≤ j → j < d.size → d[i]! ≤ d[j]!) : ∀ m, m ≤ d.size → (compactUpTo d m).Pairwise (· < ·) ∧ (∀ v, v ∈ compactUpTo d m ↔ ∃ i, i < m ∧ d[i]! = v) ∧ (∀ v ∈ compactUpTo d m, 0 < m ∧ v ≤ d[m - 1]!)
  | 0, _ => by simp [compactUpTo]
  | m + 1, hm => by
    obtain ⟨h1, h2, h3⟩ := upto_spec d hs m (by omega)
    rw [compactUpTo_succ]
    by_cases hk : keeps d m = true
    · rw [if_pos hk]
      have hlt : ∀ v ∈ compactUpTo d m, v < d[m]! := fun v hv => by
        obtain ⟨h4, h5⟩ := h3 v hv
        have h6 := hs (m - 1) m (by omega) (by omega)
        have h7 : d[m]! ≠ d[m - 1]! := by
          simp only [keeps] at hk
          have h0 : m ≠ 0 := by omega
          simpa [h0] using hk
        omega
      refine ⟨?_, fun v => ?_, fun v hv => ?_⟩
      · rw [List.pairwise_append]
        exact ⟨h1, List.pairwise_singleton .., fun a ha b hb => by simp at hb; rw [hb]; exact hlt a ha⟩
      · rw [List.mem_append, h2]
        simp only [List.mem_singleton]
        constructor
        · rintro (⟨i, hi, e⟩ | e)
          · exact ⟨i, by omega, e⟩
          · exact ⟨m, by omega, e.symm⟩
        · rintro ⟨i, hi, e⟩
          by_cases h : i < m
          · exact .inl ⟨i, h, e⟩
          · have : i = m := by omega
            subst this
            exact .inr e.symm
      · refine ⟨by omega, ?_⟩
        rcases List.mem_append.1 hv with hv | hv
        · exact Int.le_of_lt (hlt v hv)
        · simp at hv
          rw [hv]
          exact Int.le_refl _
    · rw [if_neg hk, List.append_nil]
      have h0 : 0 < m := by
        rcases Nat.eq_zero_or_pos m with e | e
        · subst e; simp [keeps] at hk
        · exact e
      have he : d[m]! = d[m - 1]! := by
        have h0 : m ≠ 0 := by omega
        simpa [keeps, h0] using hk
      refine ⟨h1, fun v => ?_, fun v hv => ⟨by omega, ?_⟩⟩
      · rw [h2]
        constructor
        · rintro ⟨i, hi, e⟩; exact ⟨i, by omega, e⟩
        · rintro ⟨i, hi, e⟩
          by_cases h : i < m
          · exact ⟨i, h, e⟩
          · have : i = m := by omega
            subst this
            exact ⟨i - 1, by omega, by rw [← he]; exact e⟩
      · have := (h3 v hv).2
        simp only [Nat.add_sub_cancel]
        rw [he]; exact this

theorem canonI_spec (zs : List Int) : (canonI zs).Pairwise (· < ·) ∧ ∀ v, v ∈ canonI zs ↔ v ∈ zs := by
  have hp := List.mergeSort_perm zs fun x y => decide (x ≤ y)
  have hso := List.pairwise_mergeSort (le := fun x y : Int => decide (x ≤ y)) (fun a b c h1 h2 => by simp at *; omega) (fun a b => by simp; omega) zs
  unfold canonI compact
  generalize zs.mergeSort (fun x y => decide (x ≤ y)) = ss at hp hso
  have hget : ∀ i, i < ss.length → ss.toArray[i]! = ss.getD i 0 := fun i hi => by simp [List.getD_eq_getElem?_getD, hi]
  have hs : ∀ i j, i ≤ j → j < ss.toArray.size → ss.toArray[i]! ≤ ss.toArray[j]! := fun i j hij hj => by
    simp only [List.size_toArray] at hj
    rw [hget i (by omega), hget j hj]
    simp only [List.getD_eq_getElem?_getD, List.getElem?_eq_getElem hj, List.getElem?_eq_getElem (show i < ss.length by omega), Option.getD_some]
    rcases Nat.lt_or_eq_of_le hij with h | h
    · have := List.pairwise_iff_getElem.1 hso i j (by omega) hj h
      simpa using this
    · subst h; exact Int.le_refl _
  obtain ⟨h1, h2, _⟩ := upto_spec ss.toArray hs ss.length (by simp)
  refine ⟨h1, fun v => ?_⟩
  rw [h2, ← hp.mem_iff]
  constructor
  · rintro ⟨i, hi, e⟩
    rw [← e, hget i hi]
    simp only [List.getD_eq_getElem?_getD, List.getElem?_eq_getElem hi, Option.getD_some]
    exact List.getElem_mem hi
  · intro hv
    obtain ⟨i, hi, e⟩ := List.mem_iff_getElem.1 hv
    refine ⟨i, hi, ?_⟩
    rw [hget i hi]
    simp [List.getD_eq_getElem?_getD, hi, e]

theorem ascI_eq : ∀ {a b : List Int}, a.Pairwise (· < ·) → b.Pairwise (· < ·) → (∀ v, v ∈ a ↔ v ∈ b) → a = b
  | [], [], _, _, _ => rfl
  | [], y :: b, _, _, h => absurd ((h y).2 (List.mem_cons_self ..)) (by simp)
  | x :: a, [], _, _, h => absurd ((h x).1 (List.mem_cons_self ..)) (by simp)
  | x :: a, y :: b, ha, hb, h => by
    rw [List.pairwise_cons] at ha hb
    have hxy : x = y := by
      have h1 := (h x).1 (List.mem_cons_self ..)
      have h2 := (h y).2 (List.mem_cons_self ..)
      rcases List.mem_cons.1 h1 with h1 | h1
      · exact h1
      · rcases List.mem_cons.1 h2 with h2 | h2
        · exact h2.symm
        · have := ha.1 y h2; have := hb.1 x h1; omega
    subst hxy
    congr 1
    refine ascI_eq ha.2 hb.2 fun v => ?_
    constructor
    · intro hv
      rcases List.mem_cons.1 ((h v).1 (List.mem_cons_of_mem _ hv)) with e | e
      · have := ha.1 v hv; omega
      · exact e
    · intro hv
      rcases List.mem_cons.1 ((h v).2 (List.mem_cons_of_mem _ hv)) with e | e
      · have := hb.1 v hv; omega
      · exact e
/-- As numbers from 0 on. -/
def castL (l : List Nat) : List Int := l.map fun n : Nat => (n : Int)
def natL (l : List Int) : List Nat := l.map Int.toNat
theorem natL_castL (l : List Nat) : natL (castL l) = l := by
  unfold natL castL
  rw [List.map_map]
  conv => rhs; rw [← List.map_id l]
  exact List.map_congr_left fun v _ => rfl
theorem castL_natL {l : List Int} (h : ∀ v ∈ l, 0 ≤ v) : castL (natL l) = l := by
  unfold natL castL
  rw [List.map_map]
  conv => rhs; rw [← List.map_id l]
  exact List.map_congr_left fun v hv => by have := h v hv; simp; omega
def canonN (l : List Nat) : List Nat := natL (canonI (castL l))
theorem canonI_cast (l : List Nat) : canonI (castL l) = castL (canonN l) := by
  unfold canonN
  rw [castL_natL]
  intro v hv
  have := ((canonI_spec (castL l)).2 v).1 hv
  simp only [castL, List.mem_map] at this
  obtain ⟨n, _, rfl⟩ := this
  omega
theorem canonN_spec (l : List Nat) : (canonN l).Pairwise (· < ·) ∧ ∀ v, v ∈ canonN l ↔ v ∈ l := by
  obtain ⟨h1, h2⟩ := canonI_spec (castL l)
  rw [canonI_cast] at h1 h2
  refine ⟨?_, fun v => ?_⟩
  · simp only [castL, List.pairwise_map] at h1
    exact h1.imp fun h => by omega
  · have := h2 (v : Int)
    simp only [castL, List.mem_map] at this
    constructor
    · intro hv
      obtain ⟨n, hn, e⟩ := this.1 ⟨v, hv, rfl⟩
      have : n = v := by omega
      exact this ▸ hn
    · intro hv
      obtain ⟨n, hn, e⟩ := this.2 ⟨v, hv, rfl⟩
      have : n = v := by omega
      exact this ▸ hn
theorem nodup_of_asc {l : List Nat} (h : l.Pairwise (· < ·)) : l.Nodup := h.imp fun h => Nat.ne_of_lt h
theorem perm_of_mem : ∀ {a b : List Nat}, a.Nodup → b.Nodup → (∀ v, v ∈ a ↔ v ∈ b) → a.Perm b
  | [], [], _, _, _ => .nil
  | [], y :: b, _, _, h => absurd ((h y).2 (List.mem_cons_self ..)) (by simp)
  | x :: a, b, ha, hb, h => by
    have hx : x ∈ b := (h x).1 (List.mem_cons_self ..)
    rw [List.nodup_cons] at ha
    refine ((perm_of_mem ha.2 (hb.erase x) fun v => ?_).cons x).trans (List.perm_cons_erase hx).symm
    rw [hb.mem_erase_iff, ← h, List.mem_cons]
    constructor
    · exact fun hv => ⟨fun e => ha.1 (e ▸ hv), .inr hv⟩
    · rintro ⟨h1, h2⟩
      exact h2.resolve_left h1
theorem canonN_perm {l : List Nat} (h : l.Nodup) : (canonN l).Perm l := perm_of_mem (nodup_of_asc (canonN_spec l).1) h (canonN_spec l).2
end Go.Tar
