/- For the proofs: the library's functions that the program calls, told by their numbers here (printed by a program). -/
import Derived.Test.YteeopipgglngmaaProg
import Derived.KernelRfl
import Derived.Shelf.Lays
import Derived.Shelf.Lays2
import Derived.WalkKit
import Derived.Shelf.Slices.Clone
import Derived.Shelf.Slices.CompactI
import Derived.Shelf.Slices.In.SortNone
import Derived.Shelf.Slices.In.SortAlone
import Derived.Shelf.Sort.AssemblyIn
import Derived.Sort.EveryDepth
import Derived.Sort.OwnSortedInts
import Derived.Sort.Grow
import Derived.Lib.OwnBridge
import Derived.Test.YteeopipgglngmaaA3
set_option linter.all false
namespace Go.Proofs
open Go.Shelf
def Try.lays189_ren : Go.Shelf.Ren := ⟨fun | 189 => 29 | 125 => 35 | 257 => 34 | 128 => 45 | 129 => 46 | 294 => 36 | 295 => 37 | 296 => 38 | 297 => 39 | 298 => 40 | 299 => 41 | 216 => 42 | 300 => 43 | 301 => 44 | 328 => 47 | 329 => 48 | 330 => 49 | 331 => 50 | 332 => 51 | 215 => 52 | 343 => 53 | n => n, fun | 28 => 35 | 3 => 3 | 46 => 36 | 0 => 0 | 51 => 88 | 53 => 67 | 4 => 4 | 183 => 80 | 182 => 79 | 131 => 85 | 5 => 5 | 9 => 9 | 218 => 90 | 222 => 52 | 228 => 96 | 229 => 97 | n => n, fun | n => n⟩
theorem Try.lays189 : Go.Proofs.Lays.n189 Try.prog Try.lays189_ren := {
  mixed := by kernel_rfl,
  f125 := Try.func35.trans (congrArg some (by kernel_rfl)),
  f128 := Try.func45.trans (congrArg some (by kernel_rfl)),
  f129 := Try.func46.trans (congrArg some (by kernel_rfl)),
  f189 := Try.func29.trans (congrArg some (by kernel_rfl)),
  f215 := Try.func52.trans (congrArg some (by kernel_rfl)),
  f216 := Try.func42.trans (congrArg some (by kernel_rfl)),
  f257 := Try.func34.trans (congrArg some (by kernel_rfl)),
  f294 := Try.func36.trans (congrArg some (by kernel_rfl)),
  f295 := Try.func37.trans (congrArg some (by kernel_rfl)),
  f296 := Try.func38.trans (congrArg some (by kernel_rfl)),
  f297 := Try.func39.trans (congrArg some (by kernel_rfl)),
  f298 := Try.func40.trans (congrArg some (by kernel_rfl)),
  f299 := Try.func41.trans (congrArg some (by kernel_rfl)),
  f300 := Try.func43.trans (congrArg some (by kernel_rfl)),
  f301 := Try.func44.trans (congrArg some (by kernel_rfl)),
  f328 := Try.func47.trans (congrArg some (by kernel_rfl)),
  f329 := Try.func48.trans (congrArg some (by kernel_rfl)),
  f330 := Try.func49.trans (congrArg some (by kernel_rfl)),
  f331 := Try.func50.trans (congrArg some (by kernel_rfl)),
  f332 := Try.func51.trans (congrArg some (by kernel_rfl)),
  f343 := Try.func53.trans (congrArg some (by kernel_rfl)),
  t0 := Try.underlying0,
  a0 := Try.isAgg0,
  z0 := Try.sizeOf0,
  v0 := Try.zeroValue0,
  t3 := Try.underlying3,
  a3 := Try.isAgg3,
  z3 := Try.sizeOf3,
  v3 := Try.zeroValue3,
  t4 := Try.underlying4,
  a4 := Try.isAgg4,
  z4 := Try.sizeOf4,
  v4 := Try.zeroValue4,
  t5 := Try.underlying5,
  a5 := Try.isAgg5,
  z5 := Try.sizeOf5,
  v5 := Try.zeroValue5,
  t9 := Try.underlying9,
  a9 := Try.isAgg9,
  z9 := Try.sizeOf9,
  v9 := Try.zeroValue9,
  t28 := Try.underlying35,
  a28 := Try.isAgg35,
  z28 := Try.sizeOf35,
  v28 := Try.zeroValue35,
  t46 := Try.underlying36,
  a46 := Try.isAgg36,
  z46 := Try.sizeOf36,
  v46 := Try.zeroValue36,
  t51 := Try.underlying88,
  a51 := Try.isAgg88,
  z51 := Try.sizeOf88,
  v51 := Try.zeroValue88,
  t53 := Try.underlying67,
  a53 := Try.isAgg67,
  z53 := Try.sizeOf67,
  v53 := Try.zeroValue67,
  t131 := Try.underlying85,
  a131 := Try.isAgg85,
  z131 := Try.sizeOf85,
  v131 := Try.zeroValue85,
  t182 := Try.underlying79,
  a182 := Try.isAgg79,
  z182 := Try.sizeOf79,
  v182 := Try.zeroValue79,
  t183 := Try.underlying80,
  a183 := Try.isAgg80,
  z183 := Try.sizeOf80,
  v183 := Try.zeroValue80,
  t218 := Try.underlying90,
  a218 := Try.isAgg90,
  z218 := Try.sizeOf90,
  v218 := Try.zeroValue90,
  t222 := Try.underlying52,
  a222 := Try.isAgg52,
  z222 := Try.sizeOf52,
  v222 := Try.zeroValue52,
  t228 := Try.underlying96,
  a228 := Try.isAgg96,
  z228 := Try.sizeOf96,
  v228 := Try.zeroValue96,
  t229 := Try.underlying97,
  a229 := Try.isAgg97,
  z229 := Try.sizeOf97,
  v229 := Try.zeroValue97 }
def Try.lays15_ren : Go.Shelf.Ren := ⟨fun | 15 => 28 | n => n, fun | 22 => 35 | 3 => 3 | 4 => 4 | n => n, fun | n => n⟩
theorem Try.lays15 : Go.Proofs.Lays2.n15 Try.prog Try.lays15_ren := {
  mixed := by kernel_rfl,
  f15 := Try.func28.trans (congrArg some (by kernel_rfl)),
  t3 := Try.underlying3,
  a3 := Try.isAgg3,
  z3 := Try.sizeOf3,
  v3 := Try.zeroValue3,
  t4 := Try.underlying4,
  a4 := Try.isAgg4,
  z4 := Try.sizeOf4,
  v4 := Try.zeroValue4,
  t22 := Try.underlying35,
  a22 := Try.isAgg35,
  z22 := Try.sizeOf35,
  v22 := Try.zeroValue35,
  i3 := by kernel_rfl }
def Try.lays20_ren : Go.Shelf.Ren := ⟨fun | 20 => 30 | n => n, fun | 22 => 35 | 3 => 3 | 4 => 4 | 0 => 0 | n => n, fun | n => n⟩
theorem Try.lays20 : Go.Proofs.Lays2.n20 Try.prog Try.lays20_ren := {
  mixed := by kernel_rfl,
  f20 := Try.func30.trans (congrArg some (by kernel_rfl)),
  t0 := Try.underlying0,
  a0 := Try.isAgg0,
  z0 := Try.sizeOf0,
  v0 := Try.zeroValue0,
  t3 := Try.underlying3,
  a3 := Try.isAgg3,
  z3 := Try.sizeOf3,
  v3 := Try.zeroValue3,
  t4 := Try.underlying4,
  a4 := Try.isAgg4,
  z4 := Try.sizeOf4,
  v4 := Try.zeroValue4,
  t22 := Try.underlying35,
  a22 := Try.isAgg35,
  z22 := Try.sizeOf35,
  v22 := Try.zeroValue35,
  i3 := by kernel_rfl }
def Try.lays107_ren : Go.Shelf.Ren := ⟨fun | 107 => 27 | 108 => 33 | n => n, fun | 28 => 35 | 3 => 3 | 4 => 4 | 0 => 0 | n => n, fun | n => n⟩
theorem Try.lays107 : Go.Proofs.Lays.n107 Try.prog Try.lays107_ren := {
  mixed := by kernel_rfl,
  f107 := Try.func27.trans (congrArg some (by kernel_rfl)),
  f108 := Try.func33.trans (congrArg some (by kernel_rfl)),
  t0 := Try.underlying0,
  a0 := Try.isAgg0,
  z0 := Try.sizeOf0,
  v0 := Try.zeroValue0,
  t3 := Try.underlying3,
  a3 := Try.isAgg3,
  z3 := Try.sizeOf3,
  v3 := Try.zeroValue3,
  t4 := Try.underlying4,
  a4 := Try.isAgg4,
  z4 := Try.sizeOf4,
  v4 := Try.zeroValue4,
  t28 := Try.underlying35,
  a28 := Try.isAgg35,
  z28 := Try.sizeOf35,
  v28 := Try.zeroValue35 }

end Go.Proofs

/- For the proofs: what 'compact' (Clone, Sort, Compact) does. -/
namespace Go.Proofs.Try
open Go.RowKit Go.Shelf Go.Sort

/-- Ascending, each once. -/
def canon (zs : List Int) : List Int := Lib.compact (zs.mergeSort fun x y => decide (x ≤ y))

def CompLeft (w : World) (ss : List Int) (e : Ending) (w' : World) : Prop :=
  ∃ g cap, e = .returned (.slice (some ⟨g, 0, none⟩) (canon ss).length cap) ∧
    w'.ownsRow w.heap.size 3 1 (.slice (some ⟨g, 0, none⟩) (canon ss).length cap) (canon ss).length ((canon ss).map (Value.int .i64)) ∧ Below w.heap.size w w'

theorem compLeft_of {w w1 : World} {g cap n nn q : Nat} {os : Array Obj} {ss : List Int} (hown : w1.ownsRow w.heap.size 3 1 (.slice (some ⟨g, 0, none⟩) n cap) n (ss.map (Value.int .i64))) (hbel : Below w.heap.size w w1) (hbg : w.heap.size ≤ g) (hlen : ss.length = n) :
    CompLeft w ss (.returned (.slice (some ⟨g, 0, none⟩) (canon ss).length cap))
      (putRow (Value.int .i64) (Sort.ahead (grow (putRow (Value.int .i64) (Sort.ahead w1 nn) g 0 (ss.mergeSort fun x y => decide (x ≤ y)).toArray) os) q) g 0 (canon ss ++ List.replicate (n - (canon ss).length) 0).toArray) := by
  have hl2 : (ss.mergeSort fun x y => decide (x ≤ y)).length = ss.length := List.length_mergeSort ss
  have hle : (canon ss).length ≤ (ss.mergeSort fun x y => decide (x ≤ y)).length := Lib.compact_length_le (ss.mergeSort fun x y => decide (x ≤ y))
  subst hlen
  rcases hown.2 with ⟨h0, _⟩ | ⟨g', cap', cur, hv, hbase, hb, h1, h2, h3, h4⟩
  · cases h0
  cases hv
  have hs := ownsRow_sortedI (n := nn) (os := os) (ts := ss.mergeSort fun x y => decide (x ≤ y)) hl2 hbase hb h1 h2 h3
  have hc := Lib.ownsRow_putRow (q := q) (k := (canon ss).length) (ys := canon ss ++ List.replicate (ss.length - (canon ss).length) 0) hs (by simp; omega) (by omega)
  rw [List.take_left] at hc
  exact ⟨g, cap, rfl, hc, Lib.below_putRow (hbel.grown (grownBy_sortedI _) hbel.size (fun j hj => by cases hj; exact hbase)) hbg⟩

theorem sort_calls (g cap : Nat) (ss : List Int) (w : World) (hH : Holds (Value.int .i64) w g 0 ss.toArray) (hgl : g < w.heap.size) (hsz : ss.length < 4611686018427387904) :
    Calls prog 29 #[.slice (some ⟨g, 0, none⟩) ss.length cap] w fun e w' => e = .returned (.tuple #[]) ∧ ∃ n os, w' = grow (putRow (Value.int .i64) (Sort.ahead w n) g 0 (ss.mergeSort fun x y => decide (x ≤ y)).toArray) os :=
  calls_of_every_depth fun D => AnyS.slices_Sort_int_alone lays189 D g 0 cap ss w hH hgl hsz
theorem compact_int_calls (g cap : Nat) (ss : List Int) (w : World) (hH : Holds (Value.int .i64) w g 0 ss.toArray) (hsz : ss.length ≤ 9223372036854775807) (hcap : ss.length ≤ cap) :
    Calls prog 30 #[.slice (some ⟨g, 0, none⟩) ss.length cap] w fun e w' => e = .returned (.slice (some ⟨g, 0, none⟩) (Lib.compact ss).length cap) ∧ ∃ q, w' = putRow (Value.int .i64) (Sort.ahead w q) g 0 (Lib.compact ss ++ List.replicate (ss.length - (Lib.compact ss).length) 0).toArray :=
  Any.slices_Compact_int lays20 g 0 cap ss w hH hsz hcap

set_option maxHeartbeats 2000000 in
set_option maxRecDepth 100000 in
theorem comp_tail (n : Nat) (arg : Value) (ss : List Int) (w : World) (hn : n ≤ 4611686018427387903)
    (hclone : Calls prog 28 #[arg] w fun e w' => ∃ v', e = .returned v' ∧ w'.ownsRow w.heap.size 3 1 v' n (ss.map (Value.int .i64)) ∧ v' ≠ .slice none 0 0 ∧ Below w.heap.size w w') :
    Calls prog 22 #[arg] w (CompLeft w ss) := by
  go_enter func22, ntmps22
  go_wp2_with (first
    | (go_at_call 28; refine hclone.mono ?_; rintro e w1 ⟨v1, rfl, hown, hnn, hbel⟩
       obtain ⟨g, cap, rfl, hbg, hgl, hncap, hcm, hlen, hH⟩ := Lib.holds_of_ownsRow hown hnn
       have hsort := sort_calls g cap ss w1 hH hgl (by omega)
       rw [hlen] at hsort
       have X : Aside (w1.ownsRow w.heap.size 3 1 (.slice (some ⟨g, 0, none⟩) n cap) n (ss.map (Value.int .i64)) ∧ Below w.heap.size w w1 ∧ w.heap.size ≤ g ∧ g < w1.heap.size ∧ n ≤ cap ∧ cap ≤ maxLen ∧ ss.length = n ∧ Holds (Value.int .i64) w1 g 0 ss.toArray) := ⟨hown, hbel, hbg, hgl, hncap, hcm, hlen, hH⟩
       clear hown hbel hH hnn)
    | (go_at_call 29; refine hsort.mono ?_; rintro e w2 ⟨rfl, nn, os, rfl⟩
       have hl2 : (ss.mergeSort fun x y => decide (x ≤ y)).length = n := by rw [List.length_mergeSort]; exact X.out.2.2.2.2.2.2.1
       have hH2 : Holds (Value.int .i64) (grow (putRow (Value.int .i64) (Sort.ahead w1 nn) g 0 (ss.mergeSort fun x y => decide (x ≤ y)).toArray) os) g 0 (ss.mergeSort fun x y => decide (x ≤ y)).toArray :=
         holds_grow (Value.int .i64) _ os g 0 _ (by simpa [putRow, mapBlock, Sort.ahead] using X.out.2.2.2.1) (holds_putRow (Value.int .i64) _ g 0 _ _ (holds_ahead (Value.int .i64) w1 nn g 0 _ X.out.2.2.2.2.2.2.2) (by simp))
       have hcomp := compact_int_calls g cap (ss.mergeSort fun x y => decide (x ≤ y)) _ hH2 (by omega) (by have := X.out.2.2.2.2.1; omega)
       rw [hl2] at hcomp
       clear hH2 hsort)
    | (go_at_call 30; refine hcomp.mono ?_; rintro e w3 ⟨rfl, q, rfl⟩))
  go_ret
  exact compLeft_of X.out.1 X.out.2.1 X.out.2.2.1 X.out.2.2.2.2.2.2.1

theorem comp_any (b off n c : Nat) (zs : List Int) (w : World) (hz : n ≤ zs.length) (hbig : n * 8 ≤ 140737488355328) (hc : ∀ j, j < zs.length → w.cell? ⟨b, off + j, none⟩ = some (.int .i64 (zs.getD j 0))) :
    Calls prog 22 #[.slice (some ⟨b, off, none⟩) n c] w (CompLeft w (zs.take n)) :=
  comp_tail n _ _ w (by omega) (Any.slices_Clone_int lays15 b off n c zs w hz hbig hc)
theorem comp_zero (a : Addr) (c : Nat) (w : World) : Calls prog 22 #[.slice (some a) 0 c] w (CompLeft w []) :=
  comp_tail 0 _ [] w (by omega) (Any.slices_Clone_int_zero lays15 a c w)

set_option maxHeartbeats 2000000 in
theorem comp_nil (n c : Nat) (w : World) : Calls prog 22 #[.slice none n c] w fun e w' => e = .returned (.slice none 0 0) ∧ w' = w := by
  go_enter func22, ntmps22
  go_wp2_with (first
    | (go_at_call 28; refine (Any.slices_Clone_int_nil lays15 n c _).mono ?_; rintro e w' ⟨rfl, rfl⟩)
    | (go_at_call 29; refine (Any.slices_Sort_int_none lays189 none 0 _).mono ?_; rintro e w' ⟨rfl, rfl⟩)
    | (go_at_call 30; refine (Any.slices_Compact_int_empty lays20 none 0 _).mono ?_; rintro e w' ⟨rfl, rfl⟩))
  go_ret
  exact ⟨rfl, rfl⟩
end Go.Proofs.Try

/- For the proofs: 'compact' as a call whose answer is new memory. -/
set_option linter.unusedSimpArgs false
namespace Go.Aw
open Go Go.Proofs.Try

theorem canon_length (zs : List Int) : (canon zs).length ≤ zs.length := by
  have := Lib.compact_length_le (zs.mergeSort fun x y => decide (x ≤ y))
  rw [List.length_mergeSort] at this
  exact this

theorem compLeft_FR {w w' : World} {zs : List Int} {e : Ending} (h : CompLeft w zs e w') (hz : zs.length ≤ 140737488355328) : ∃ v, e = .returned v ∧ FR w' (fun g => w.heap.size ≤ g ∧ g < w'.heap.size) (.ro 1 (rowsI (canon zs))) v ∧ Kept w w' := by
  obtain ⟨g, cap, rfl, hown, hb⟩ := h
  exact ⟨_, rfl, own_ints hown (Nat.le_trans (canon_length zs) hz), kept_below hb⟩

theorem compactF (G : Glob) (a : List Int) (ha : a.length ≤ 17592186044416) : FCall prog G 22 [.ro 1 (rowsI a)] (.ro 1 (rowsI (canon a))) := by
  refine ⟨⟨_, func22, by kernel_rfl, by kernel_rfl⟩, fun F w us hF hG hargs => ?_⟩
  obtain ⟨x, hx, hr⟩ := hargs.2 0 _ rfl
  have hus : us = #[x] := by
    have h1 := hargs.1
    obtain ⟨l⟩ := us
    match l, h1, hx with
    | [y], _, hx => simp at hx; rw [hx]
  subst hus
  obtain ⟨oa, cap, vals, rfl, hcap, hone, hrow, hrel⟩ := (VR.fr (ι := fun _ => none) hr).ro_
  rw [rowsI_length] at hcap ⊢
  have hcell : ∀ ad, oa = some ad → ∀ j, j < a.length → ad.spot = none ∧ w.cell? ⟨ad.block, ad.off + j, none⟩ = some (.int .i64 (a.getD j 0)) := by
    intro ad had j hj
    have hj' : (rowsI a)[j]? = some [.int .i64 (a.getD j 0)] := by simp [rowsI, List.getD_eq_getElem?_getD, List.getElem?_eq_getElem hj]
    obtain ⟨_, ad', h1, h2, _, h3⟩ := hrow j _ hj'
    rw [had] at h1
    cases h1
    have h4 := h3 0 (by omega)
    have h5 := hrel j _ 0 _ hj' rfl
    rw [(VR.fr (ι := fun _ => none) h5).int_] at h4
    exact ⟨h2, by simpa using h4⟩
  cases oa with
  | none =>
    have ha0 : a = [] := by
      cases a with
      | nil => rfl
      | cons y l =>
        obtain ⟨_, ad, h1, _⟩ := hrow 0 [.int .i64 y] (by simp [rowsI])
        cases h1
    subst ha0
    refine (comp_nil 0 cap w).mono fun e w' ⟨he, hw⟩ => ⟨_, he, ?_, ?_⟩
    · have : canon [] = [] := by simp [canon, Lib.compact, Lib.compactUpTo]
      rw [this]
      exact .ro 1 [] none 0 (fun _ _ => default) (by simp) (by simp) (by simp) (by simp)
    · subst hw; exact ⟨Nat.le_refl _, fun _ _ => rfl, rfl, rfl, rfl⟩
  | some ad =>
    by_cases h0 : a = []
    · subst h0
      exact (comp_zero ad cap w).mono fun e w' h => compLeft_FR h (by simp)
    · have hpos : 0 < a.length := List.length_pos_iff.2 h0
      have hsp := (hcell ad rfl 0 hpos).1
      obtain ⟨b, off, sp⟩ := ad
      simp only at hsp
      subst hsp
      have := comp_any b off a.length cap a w (Nat.le_refl _) (by omega) fun j hj => (hcell _ rfl j hj).2
      rw [List.take_length] at this
      exact this.mono fun e w' h => compLeft_FR h (by omega)
end Go.Aw
