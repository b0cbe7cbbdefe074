/- For the proofs: the walker's steps. -/
import Derived.Test.YteeopipgglngmaaFn5
import Derived.Test.YteeopipgglngmaaT1
set_option linter.all false
set_option linter.unusedSimpArgs false
set_option maxRecDepth 100000
namespace Go.Aw
open Go Go.Proofs.Try Go.Tar

def castLL (g : List (List Nat)) : List (List Int) := g.map castL
def castP (w : List (Nat × Nat)) : List (Int × Int) := w.map fun p => ((p.1 : Int), (p.2 : Int))
theorem castL_length (l : List Nat) : (castL l).length = l.length := by simp [castL]
theorem castLL_length (l : List (List Nat)) : (castLL l).length = l.length := by simp [castLL]
theorem castP_length (l : List (Nat × Nat)) : (castP l).length = l.length := by simp [castP]
theorem castL_getD (l : List Nat) (i : Nat) : (castL l).getD i 0 = ((l.getD i 0 : Nat) : Int) := by
  simp only [castL, List.getD_eq_getElem?_getD, List.getElem?_map]
  cases l[i]? <;> rfl
theorem castLL_getD (l : List (List Nat)) (i : Nat) : (castLL l).getD i [] = castL (l.getD i []) := by
  simp only [castLL, List.getD_eq_getElem?_getD, List.getElem?_map]
  cases l[i]? <;> rfl
theorem castP_fst (l : List (Nat × Nat)) (i : Nat) : ((castP l).getD i (0, 0)).1 = ((l.getD i (0, 0)).1 : Int) := by
  simp only [castP, List.getD_eq_getElem?_getD, List.getElem?_map]
  cases l[i]? <;> rfl
theorem castP_snd (l : List (Nat × Nat)) (i : Nat) : ((castP l).getD i (0, 0)).2 = ((l.getD i (0, 0)).2 : Int) := by
  simp only [castP, List.getD_eq_getElem?_getD, List.getElem?_map]
  cases l[i]? <;> rfl

theorem castL_take (l : List Nat) (i : Nat) : (castL l).take i = castL (l.take i) := by simp [castL, List.map_take]
theorem castLL_take (l : List (List Nat)) (i : Nat) : (castLL l).take i = castLL (l.take i) := by simp [castLL, List.map_take]
theorem castP_take (l : List (Nat × Nat)) (i : Nat) : (castP l).take i = castP (l.take i) := by simp [castP, List.map_take]
/-- A walker as it lies in memory. -/
def SH (g : Net) (s : S) : List (Option Blk) :=
  [some ⟨1, rowsI (castL s.when_)⟩, some ⟨1, rowsI (castL s.low)⟩, some ⟨1, rowsB s.on⟩,
   some ⟨7, [[.sl 4 1 0 g.length g.length, .sl 0 1 0 s.when_.length s.when_.length, .sl 1 1 0 s.low.length s.low.length, .sl 5 1 0 s.row.length s.row.length, .sl 2 1 0 s.on.length s.on.length, .sl 6 2 0 s.way.length s.way.length, .sl 7 1 0 s.parts.length s.parts.length]]⟩,
   some ⟨1, rowsII (castLL g)⟩, some ⟨1, rowsI (castL s.row)⟩, some ⟨2, rowsP (castP s.way)⟩, some ⟨1, rowsII (castLL s.parts)⟩, some ⟨1, [[.int .i64 s.n]]⟩]

theorem SH_rows (g : Net) (s : S) : ∀ b, some b ∈ SH g s → ∀ row ∈ b.rows, ∀ id ∈ refsL row, liveB (SH g s) id = true := by
  intro b hb row hrow id hid
  simp only [SH, List.mem_cons, Option.some.injEq, List.not_mem_nil, or_false] at hb
  rcases hb with rfl | rfl | rfl | rfl | rfl | rfl | rfl | rfl | rfl
  · rw [rowsI_frz _ row hrow] at hid; simp at hid
  · rw [rowsI_frz _ row hrow] at hid; simp at hid
  · rw [rowsB_frz _ row hrow] at hid; simp at hid
  · simp only [List.mem_singleton] at hrow
    subst hrow
    simp [refsL, refs] at hid
    rcases hid with rfl | rfl | rfl | rfl | rfl | rfl | rfl <;> rfl
  · rw [rowsII_frz _ row hrow] at hid; simp at hid
  · rw [rowsI_frz _ row hrow] at hid; simp at hid
  · rw [rowsP_frz _ row hrow] at hid; simp at hid
  · rw [rowsII_frz _ row hrow] at hid; simp at hid
  · simp only [List.mem_singleton] at hrow
    subst hrow
    simp [refsL, refs] at hid
theorem inv_lens {g : Net} {s : S} (h : Inv g s) : s.n ≤ g.length ∧ s.row.length ≤ g.length ∧ s.way.length ≤ g.length ∧ s.parts.length ≤ g.length := by
  have h9 := flat_len h.ne
  have h1 := h.n_le
  have h2 := h.hn
  have h3 := h.sub.length_le
  rw [List.length_append] at h1 h2
  simp only [List.length_map] at h3
  omega

set_option maxHeartbeats 4000000 in
theorem meetE (G : Glob) (g : Net) (s : S) (i : Nat) (h : Inv g s) (hi : i < g.length) (h0 : s.when_.getD i 0 = 0) (hb : g.length ≤ 5864062014700) :
    ECall prog G 31 [.ptr 3 7 0 0, .int .i64 i, .ptr 8 1 0 0] (SH g s) (.tup []) (SH g (s.meet i)) [5, 6, 9, 10, 11, 12] := by
  have h1 := h.hw
  have h2 := h.hl
  have h3 := h.ho
  obtain ⟨h4, h5, h6, h7⟩ := inv_lens h
  refine ECall.introC func31 (by kernel_rfl) rfl (by rw [ntmps31]; simp) (by simp [refs, refsL, liveB]) ?_
  rw [ntmps31, results31]
  refine wpC.soundL (cs := [(2, [], 2), (3, [], 2)]) follows (by kernel_rfl) ?_
  repeat' first | (refine Ad.introL (by first | omega | (unfold inI; omega)) ?_) | (refine ifQ_decL (fun _ => ?_) (fun _ => ?_)) | (simp -implicitDefEqProofs only [z1, z2, z3, z4, z5, z6, z7, z8, z9, z10, z11, z12, z13, z14, ↓z15, ↓z16, ↓z17, ↓z18, ↓z19, ↓z20, ↓z21, ↓z22, ↓z23, ↓z24, ↓z25, z26, z27, z28, reduceIte, Nat.reduceEqDiff, Nat.reduceSub, Nat.reduceAdd, z29, z30, z31, z32, alN, isAl, z33, z34, z35, z36, z37, z38, z39, z40, cwGet, z41, z42, z43, z44, z45, z46, z47, z48, z49, z50, z51, z52, z53, z54, z55, z56, z57, z58, z59, z60, z61, z62, z63, z64, z65, z66, z67, z68, z69, z70, z71, z72, z73, z74, z75, z76, z77, z78, z79, z80, z81, z82, z83, z84, z85, z86, z87, z88, z89, z90, z91, z92, z93, z94, z95, z96, z97, z98, z99, z100, z101, z102, z103, z104, z105, z106, z107, z108, z109, z110, z111, ↓z112, z113, z114, z115, z116, z117, z118, z119, z120, z121, z122, z123, z124, z125, z126, z127, z128, z129, z130, z131, z132, z133, z134, z135, z136, z137, z138, z139, z140, z141, z142, z143, z144, z145, Nat.reduceBEq, z146, z147, z148, z149, z150, z151, z152, z153, z154, z155, z156, z157, z158, spl, z159, partsL, chunk, z160, z161, z162, z163, z164, z165, z166, Nat.reduceLT, Nat.reduceLeDiff, Nat.reduceMul, z167, z168, z169, z170, z171, z172, z173, z174, z175, z176, z177, z178, z179, z180, z181, z182, z183, z184, z185, z186, z187, z188, z189, z190, z191, z192, z193, z194, z195, z196, z197, z198, z199, z200, z201, z202, z203, z204, z205, z206, z207, z208, z209, z210, z211, z212, z213, z214, z215, z216, z217, z218, z219, z220, z221, z222, z223, z224, z225, z226, z227, z228, z229, z230, z231, z232, z233, z234, z235, z236, z237, z238, z239, z240, z241, z242, z243, z244, z245, z246, z247, z248, alGet, z249, z250, z251, z252, z253, z254, z255, z256, z257, z258, z259, z260, z261, ↓z262, z263, z264, z265, z266, z267, z268, z269, z270, z271, z272, z273, z274, z275, z276, z277, z278, Nat.reduceBNe, z279, z280, z281, z282, z283, z284, z285, z286, z287, z288, z289, z290, z291, z292, z293, z294, z295, z296, z297, z298, z299, z300, z301, z302, z303, z304, z305, z306, z307, z308, z309, z310, z311, z312, z313, z314, z315, z316, z317, z318, z319, z320, insC, blockC, arrC, graphC, ix22, ix29, ix33, ix35, ix40, ix47, ix53, ix57, ld3, ld4, ld22, ld33, ld35, ld40, ld42, ld47, ld57, ld64, ld65, ld69, sz3, sz4, sz22, sz35, sz42, sz47, sz57, sz64, sz69, fl42_5, fl49_0, fl49_1, fl49_2, fl49_3, fl49_4, fl49_5, fl49_6, fl64_0, fl69_0, fl69_5, fl73_0, fl73_1, zr3, zr42, zr64, zr69, el22, el29, el33, el35, el40, el47, el53, el57, bl42, fp42_0, fp42_1, fp42_2, fp42_3, fp42_4, fp42_5, bl49, zr49, fp49_0, fp49_1, fp49_2, fp49_3, fp49_4, bl64, bl69, fp69_0, fp69_1, fp69_2, fp69_3, fp69_4, fp69_5, bl73, zr73, fp73_0, fp73_1, underlying22, underlying29, underlying33, underlying35, underlying40, underlying47, underlying53, underlying57, castL_length, castL_getD, castLL_length, castLL_getD, castP_length, castP_fst, castP_snd, castL_take, castLL_take, castP_take, List.take_length, SH]) | (refine ifQ.introL (fun _ => ?_) (fun _ => ?_))
  refine ⟨.refl _, Cut.mk' (X := [_, _, _, _]) ⟨.rows ?_, .rows ?_, .refl _, .eq ?_, .refl _, .rows ?_, .rows ?_, .refl _, .refl _, .refl _, .refl _, .refl _, .refl _, trivial⟩ (SH_rows g _) (by simp) (by simp; omega)⟩
  all_goals simp [S.meet, castL, castP, List.map_set]
end Go.Aw
