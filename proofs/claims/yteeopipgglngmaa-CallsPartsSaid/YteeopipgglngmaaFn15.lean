/- For the proofs: whether one place can be reached from another. -/
import Derived.Test.YteeopipgglngmaaFn14
import Derived.Test.YteeopipgglngmaaTarT
set_option linter.all false
set_option linter.unusedSimpArgs false
set_option linter.unusedVariables false
set_option maxRecDepth 100000
namespace Go.Aw
open Go Go.Proofs.Try Go.Tar

/-- The net as it is written. -/
def natN (next : List (List Int)) : Net := next.map natL
theorem natN_length (next : List (List Int)) : (natN next).length = next.length := by simp [natN]
theorem natN_nx (next : List (List Int)) (u : Nat) : nx (natN next) u = natL (next.getD u []) := by
  unfold nx natN
  rw [List.getD_eq_getElem?_getD, List.getD_eq_getElem?_getD, List.getElem?_map]
  cases next[u]? <;> rfl
theorem natL_length (l : List Int) : (natL l).length = l.length := by simp [natL]
theorem natL_getD (l : List Int) (k : Nat) : (natL l).getD k 0 = (l.getD k 0).toNat := by
  rw [List.getD_eq_getElem?_getD, List.getD_eq_getElem?_getD, natL, List.getElem?_map]
  cases l[k]? <;> rfl
noncomputable def pathB (g : Net) (a b : Nat) : Bool := @decide (PathP g a b) (Classical.propDecidable _)
theorem pathB_true {g : Net} {a b : Nat} : pathB g a b = true ↔ PathP g a b := by unfold pathB; exact @decide_eq_true_iff _ (Classical.propDecidable _)
theorem pathB_false {g : Net} {a b : Nat} : pathB g a b = false ↔ ¬ PathP g a b := by unfold pathB; exact @decide_eq_false_iff_not _ (Classical.propDecidable _)

def seenI (s : List Bool) : List Int := s.map fun b => if b then 1 else 0
theorem seenI_length (s : List Bool) : (seenI s).length = s.length := by simp [seenI]
theorem seenI_getD (s : List Bool) (v : Nat) : (seenI s).getD v 0 = if s.getD v false then 1 else 0 := by
  rw [List.getD_eq_getElem?_getD, List.getD_eq_getElem?_getD, seenI, List.getElem?_map]
  cases s[v]? <;> rfl
theorem seenI_set (s : List Bool) (v : Nat) : (seenI s).set v 1 = seenI (s.set v true) := by simp [seenI, List.map_set]
theorem seenI_rep (n : Nat) : List.replicate n [AV.int .i64 0] = rowsI (seenI (List.replicate n false)) := by simp [seenI, rowsI]
theorem okK_in {next : List (List Int)} (h : validB next = true) {u k : Nat} (hk : k < (next.getD u []).length) : okK next.length ((next.getD u []).getD k 0) := by
  have hu : u < next.length := by
    rcases Nat.lt_or_ge u next.length with h' | h'
    · exact h'
    · rw [List.getD_eq_getElem?_getD, List.getElem?_eq_none h'] at hk; simp at hk
  exact validB_iff.1 h _ (getD_mem hu) _ (getD_mem hk)

set_option maxHeartbeats 8000000 in
theorem reachesP (G : Glob) (next : List (List Int)) (a b : Nat) (hval : validB next = true) (ha : a < next.length) (hb : b < next.length) (hn : next.length ≤ 1000000) (hl : ∀ l ∈ next, l.length ≤ 1000000) :
    PCall prog G 21 [.ro 1 (rowsII next), .int .i64 a, .int .i64 b] (.bool (pathB (natN next) a b)) := by
  refine PCall.intro func21 (by kernel_rfl) rfl (by rw [ntmps21]; simp) ?_
  rw [ntmps21, results21]
  refine wpC.soundL (cs := [(1, [], 1), (2, [], 1), (14, [], 2)]) follows (by kernel_rfl) ?_
  repeat' first | (refine Ad.introL (by first | omega | (unfold inI; omega)) ?_) | (refine ifQ_decL (fun _ => ?_) (fun _ => ?_)) | (simp -implicitDefEqProofs only [z1, z2, z3, z4, z5, z6, z7, z8, z9, z10, z11, z12, z13, z14, ↓z15, ↓z16, ↓z17, ↓z18, ↓z19, ↓z20, ↓z21, ↓z22, ↓z23, ↓z24, ↓z25, z26, z27, z28, reduceIte, Nat.reduceEqDiff, Nat.reduceSub, Nat.reduceAdd, z29, z30, z31, z32, alN, isAl, z33, z34, z35, z36, z37, z38, z39, z40, cwGet, z41, z42, z43, z44, z45, z46, z47, z48, z49, z50, z51, z52, z53, z54, z55, z56, z57, z58, z59, z60, z61, z62, z63, z64, z65, z66, z67, z68, z69, z70, z71, z72, z73, z74, z75, z76, z77, z78, z79, z80, z81, z82, z83, z84, z85, z86, z87, z88, z89, z90, z91, z92, z93, z94, z95, z96, z97, z98, z99, z100, z101, z102, z103, z104, z105, z106, z107, z108, z109, z110, z111, ↓z112, z113, z114, z115, z116, z117, z118, z119, z120, z121, z122, z123, z124, z125, z126, z127, z128, z129, z130, z131, z132, z133, z134, z135, z136, z137, z138, z139, z140, z141, z142, z143, z144, z145, Nat.reduceBEq, z146, z147, z148, z149, z150, z151, z152, z153, z154, z155, z156, z157, z158, spl, z159, partsL, chunk, z160, z161, z162, z163, z164, z165, z166, Nat.reduceLT, Nat.reduceLeDiff, Nat.reduceMul, z167, z168, z169, z170, z171, z172, z173, z174, z175, z176, z177, z178, z179, z180, z181, z182, z183, z184, z185, z186, z187, z188, z189, z190, z191, z192, z193, z194, z195, z196, z197, z198, z199, z200, z201, z202, z203, z204, z205, z206, z207, z208, z209, z210, z211, z212, z213, z214, z215, z216, z217, z218, z219, z220, z221, z222, z223, z224, z225, z226, z227, z228, z229, z230, z231, z232, z233, z234, z235, z236, z237, z238, z239, z240, z241, z242, z243, z244, z245, z246, z247, z248, alGet, z249, z250, z251, z252, z253, z254, z255, z256, z257, z258, z259, z260, z261, ↓z262, z263, z264, z265, z266, z267, z268, z269, z270, z271, z272, z273, z274, z275, z276, z277, z278, Nat.reduceBNe, z279, z280, z281, z282, z283, z284, z285, z286, z287, z288, z289, z290, z291, z292, z293, z294, z295, z296, z297, z298, z299, z300, z301, z302, z303, z304, z305, z306, z307, z308, z309, z310, z311, z312, z313, z314, z315, z316, z317, z318, z319, z320, insC, blockC, arrC, graphC, ix22, ix29, ix33, ix35, ix40, ix47, ix53, ix57, ld3, ld4, ld22, ld33, ld35, ld40, ld42, ld47, ld57, ld64, ld65, ld69, sz3, sz4, sz22, sz35, sz42, sz47, sz57, sz64, sz69, fl42_5, fl49_0, fl49_1, fl49_2, fl49_3, fl49_4, fl49_5, fl49_6, fl64_0, fl69_0, fl69_5, fl73_0, fl73_1, zr3, zr42, zr64, zr69, el22, el29, el33, el35, el40, el47, el53, el57, bl42, fp42_0, fp42_1, fp42_2, fp42_3, fp42_4, fp42_5, bl49, zr49, fp49_0, fp49_1, fp49_2, fp49_3, fp49_4, bl64, bl69, fp69_0, fp69_1, fp69_2, fp69_3, fp69_4, fp69_5, bl73, zr73, fp73_0, fp73_1, underlying22, underlying29, underlying33, underlying35, underlying40, underlying47, underlying53, underlying57, castL_length]) | (refine ifQ.introL (fun _ => ?_) (fun _ => ?_))
  have hgl := natN_length next
  refine AWP.loop (fun x : List Bool × List Nat × List Nat => ⟨tab [(0, .ro 1 (rowsII next)), (2, .int .i64 b), (7, .sl 0 1 0 next.length next.length), (8, .sl 1 1 x.2.1.length x.2.2.length x.2.2.length)], [some ⟨1, rowsI (seenI x.1)⟩, some ⟨1, rowsI (castL (x.2.1 ++ x.2.2))⟩], [1, 2, 3]⟩)
    (fun x => Clo (natN next) a x.1 x.2.2 none ∧ x.1.getD b false = false ∧ x.2.1.length + x.2.2.length + unseen x.1 ≤ 2 * next.length + 1) (fun x => 2 * unseen x.1 + x.2.2.length) (List.replicate next.length false, [], [a]) (Imp.gen ⟨⟨_, rfl, .refl _⟩, ⟨_, rfl, .refl _⟩, ⟨_, rfl, .refl _⟩, ⟨_, rfl, .refl _⟩, trivial⟩ ⟨.rows (by rw [seenI_rep]), .rows (by simp [rowsI, castL]), trivial⟩ (by simp)) ?_ ?_
  · refine ⟨?_, getD_rep _ _, ?_⟩
    · have := Clo.init (g := natN next) (a := a) (by omega)
      rwa [hgl] at this
    · have : unseen (List.replicate next.length false) = next.length := by simp [unseen]
      simp
      omega
  rintro ⟨seen, pre, q⟩ ⟨hclo, hsb, hlen⟩
  dsimp only at hclo hsb hlen
  cases q with
  | nil =>
    refine wpC.soundL (cs := [(1, [], 1), (2, [], 1), (14, [], 2)]) follows (by kernel_rfl) ?_
    repeat' first | (refine Ad.introL (by first | omega | (unfold inI; omega)) ?_) | (refine ifQ_decL (fun _ => ?_) (fun _ => ?_)) | (simp -implicitDefEqProofs only [z1, z2, z3, z4, z5, z6, z7, z8, z9, z10, z11, z12, z13, z14, ↓z15, ↓z16, ↓z17, ↓z18, ↓z19, ↓z20, ↓z21, ↓z22, ↓z23, ↓z24, ↓z25, z26, z27, z28, reduceIte, Nat.reduceEqDiff, Nat.reduceSub, Nat.reduceAdd, z29, z30, z31, z32, alN, isAl, z33, z34, z35, z36, z37, z38, z39, z40, cwGet, z41, z42, z43, z44, z45, z46, z47, z48, z49, z50, z51, z52, z53, z54, z55, z56, z57, z58, z59, z60, z61, z62, z63, z64, z65, z66, z67, z68, z69, z70, z71, z72, z73, z74, z75, z76, z77, z78, z79, z80, z81, z82, z83, z84, z85, z86, z87, z88, z89, z90, z91, z92, z93, z94, z95, z96, z97, z98, z99, z100, z101, z102, z103, z104, z105, z106, z107, z108, z109, z110, z111, ↓z112, z113, z114, z115, z116, z117, z118, z119, z120, z121, z122, z123, z124, z125, z126, z127, z128, z129, z130, z131, z132, z133, z134, z135, z136, z137, z138, z139, z140, z141, z142, z143, z144, z145, Nat.reduceBEq, z146, z147, z148, z149, z150, z151, z152, z153, z154, z155, z156, z157, z158, spl, z159, partsL, chunk, z160, z161, z162, z163, z164, z165, z166, Nat.reduceLT, Nat.reduceLeDiff, Nat.reduceMul, z167, z168, z169, z170, z171, z172, z173, z174, z175, z176, z177, z178, z179, z180, z181, z182, z183, z184, z185, z186, z187, z188, z189, z190, z191, z192, z193, z194, z195, z196, z197, z198, z199, z200, z201, z202, z203, z204, z205, z206, z207, z208, z209, z210, z211, z212, z213, z214, z215, z216, z217, z218, z219, z220, z221, z222, z223, z224, z225, z226, z227, z228, z229, z230, z231, z232, z233, z234, z235, z236, z237, z238, z239, z240, z241, z242, z243, z244, z245, z246, z247, z248, alGet, z249, z250, z251, z252, z253, z254, z255, z256, z257, z258, z259, z260, z261, ↓z262, z263, z264, z265, z266, z267, z268, z269, z270, z271, z272, z273, z274, z275, z276, z277, z278, Nat.reduceBNe, z279, z280, z281, z282, z283, z284, z285, z286, z287, z288, z289, z290, z291, z292, z293, z294, z295, z296, z297, z298, z299, z300, z301, z302, z303, z304, z305, z306, z307, z308, z309, z310, z311, z312, z313, z314, z315, z316, z317, z318, z319, z320, insC, blockC, arrC, graphC, ix22, ix29, ix33, ix35, ix40, ix47, ix53, ix57, ld3, ld4, ld22, ld33, ld35, ld40, ld42, ld47, ld57, ld64, ld65, ld69, sz3, sz4, sz22, sz35, sz42, sz47, sz57, sz64, sz69, fl42_5, fl49_0, fl49_1, fl49_2, fl49_3, fl49_4, fl49_5, fl49_6, fl64_0, fl69_0, fl69_5, fl73_0, fl73_1, zr3, zr42, zr64, zr69, el22, el29, el33, el35, el40, el47, el53, el57, bl42, fp42_0, fp42_1, fp42_2, fp42_3, fp42_4, fp42_5, bl49, zr49, fp49_0, fp49_1, fp49_2, fp49_3, fp49_4, bl64, bl69, fp69_0, fp69_1, fp69_2, fp69_3, fp69_4, fp69_5, bl73, zr73, fp73_0, fp73_1, underlying22, underlying29, underlying33, underlying35, underlying40, underlying47, underlying53, underlying57, castL_length]) | (refine ifQ.introL (fun _ => ?_) (fun _ => ?_))
    · rename_i h; simp at h
    · refine View.bool ?_
      symm
      rw [pathB_false, ← hclo.fin, hsb]
      simp
  | cons u q =>
    have hu := hclo.lt u (by simp)
    have hql : q.length ≤ 2 * next.length := by simp at hlen; omega
    have hpl : pre.length ≤ 2 * next.length := by simp at hlen; omega
    have hpop := hclo.pop (u := u) (q' := q) (by simp)
    have hun : natL (next.getD u []) = nx (natN next) u := (natN_nx next u).symm
    have hll : (next.getD u []).length ≤ 1000000 := hl _ (getD_mem (by omega))
    have hlen' : pre.length + 1 + q.length + unseen seen ≤ 2 * next.length + 1 := by simp at hlen; omega
    have hhd : (castL (pre ++ u :: q)).getD pre.length 0 = u := by rw [castL_getD]; simp
    refine wpC.soundL (cs := [(1, [], 1), (2, [], 1), (14, [], 2)]) follows (by kernel_rfl) ?_
    repeat' first | (refine Ad.introL (by first | omega | (unfold inI; omega)) ?_) | (refine ifQ_decL (fun _ => ?_) (fun _ => ?_)) | (simp -implicitDefEqProofs only [z1, z2, z3, z4, z5, z6, z7, z8, z9, z10, z11, z12, z13, z14, ↓z15, ↓z16, ↓z17, ↓z18, ↓z19, ↓z20, ↓z21, ↓z22, ↓z23, ↓z24, ↓z25, z26, z27, z28, reduceIte, Nat.reduceEqDiff, Nat.reduceSub, Nat.reduceAdd, z29, z30, z31, z32, alN, isAl, z33, z34, z35, z36, z37, z38, z39, z40, cwGet, z41, z42, z43, z44, z45, z46, z47, z48, z49, z50, z51, z52, z53, z54, z55, z56, z57, z58, z59, z60, z61, z62, z63, z64, z65, z66, z67, z68, z69, z70, z71, z72, z73, z74, z75, z76, z77, z78, z79, z80, z81, z82, z83, z84, z85, z86, z87, z88, z89, z90, z91, z92, z93, z94, z95, z96, z97, z98, z99, z100, z101, z102, z103, z104, z105, z106, z107, z108, z109, z110, z111, ↓z112, z113, z114, z115, z116, z117, z118, z119, z120, z121, z122, z123, z124, z125, z126, z127, z128, z129, z130, z131, z132, z133, z134, z135, z136, z137, z138, z139, z140, z141, z142, z143, z144, z145, Nat.reduceBEq, z146, z147, z148, z149, z150, z151, z152, z153, z154, z155, z156, z157, z158, spl, z159, partsL, chunk, z160, z161, z162, z163, z164, z165, z166, Nat.reduceLT, Nat.reduceLeDiff, Nat.reduceMul, z167, z168, z169, z170, z171, z172, z173, z174, z175, z176, z177, z178, z179, z180, z181, z182, z183, z184, z185, z186, z187, z188, z189, z190, z191, z192, z193, z194, z195, z196, z197, z198, z199, z200, z201, z202, z203, z204, z205, z206, z207, z208, z209, z210, z211, z212, z213, z214, z215, z216, z217, z218, z219, z220, z221, z222, z223, z224, z225, z226, z227, z228, z229, z230, z231, z232, z233, z234, z235, z236, z237, z238, z239, z240, z241, z242, z243, z244, z245, z246, z247, z248, alGet, z249, z250, z251, z252, z253, z254, z255, z256, z257, z258, z259, z260, z261, ↓z262, z263, z264, z265, z266, z267, z268, z269, z270, z271, z272, z273, z274, z275, z276, z277, z278, Nat.reduceBNe, z279, z280, z281, z282, z283, z284, z285, z286, z287, z288, z289, z290, z291, z292, z293, z294, z295, z296, z297, z298, z299, z300, z301, z302, z303, z304, z305, z306, z307, z308, z309, z310, z311, z312, z313, z314, z315, z316, z317, z318, z319, z320, insC, blockC, arrC, graphC, ix22, ix29, ix33, ix35, ix40, ix47, ix53, ix57, ld3, ld4, ld22, ld33, ld35, ld40, ld42, ld47, ld57, ld64, ld65, ld69, sz3, sz4, sz22, sz35, sz42, sz47, sz57, sz64, sz69, fl42_5, fl49_0, fl49_1, fl49_2, fl49_3, fl49_4, fl49_5, fl49_6, fl64_0, fl69_0, fl69_5, fl73_0, fl73_1, zr3, zr42, zr64, zr69, el22, el29, el33, el35, el40, el47, el53, el57, bl42, fp42_0, fp42_1, fp42_2, fp42_3, fp42_4, fp42_5, bl49, zr49, fp49_0, fp49_1, fp49_2, fp49_3, fp49_4, bl64, bl69, fp69_0, fp69_1, fp69_2, fp69_3, fp69_4, fp69_5, bl73, zr73, fp73_0, fp73_1, underlying22, underlying29, underlying33, underlying35, underlying40, underlying47, underlying53, underlying57, castL_length, hhd]) | (refine ifQ.introL (fun _ => ?_) (fun _ => ?_))
    · refine AWP.loop (fun x : Nat × List Bool × List Nat × List Nat => ⟨tab [(0, .ro 1 (rowsII next)), (2, .int .i64 b), (7, .sl 0 1 0 next.length next.length), (8, .sl 1 1 x.2.2.1.length x.2.2.2.length x.2.2.2.length), (9, .int .i64 u), (10, .int .i64 x.1)], [some ⟨1, rowsI (seenI x.2.1)⟩, some ⟨1, rowsI (castL (x.2.2.1 ++ x.2.2.2))⟩], [1, 2, 3]⟩)
        (fun x => Clo (natN next) a x.2.1 x.2.2.2 (some (u, x.1)) ∧ x.2.1.getD b false = false ∧ x.2.2.1.length + x.2.2.2.length + unseen x.2.1 ≤ 2 * next.length + 1 ∧ 2 * unseen x.2.1 + x.2.2.2.length ≤ 2 * unseen seen + q.length) (fun x => (next.getD u []).length - x.1) (0, seen, pre ++ [u], q) (Imp.gen ⟨⟨_, rfl, .refl _⟩, ⟨_, rfl, .refl _⟩, ⟨_, rfl, .refl _⟩, ⟨_, rfl, .eq (by simp)⟩, ⟨_, rfl, .refl _⟩, ⟨_, rfl, .refl _⟩, trivial⟩ ⟨.refl _, .rows (by simp), trivial⟩ (by simp)) ⟨hpop, hsb, by simp; omega, by simp⟩ ?_
      rintro ⟨k, seen', pre', q'⟩ ⟨hclo', hsb', hlen', hmu⟩
      dsimp only at hclo' hsb' hlen' hmu
      have hk := (hclo'.cur u k rfl).2.1
      rw [natN_nx, natL_length] at hk
      have hok := fun h => okK_in (next := next) hval (u := u) (k := k) h
      have hnk : (nx (natN next) u).getD k 0 = ((next.getD u []).getD k 0).toNat := by rw [natN_nx, natL_getD]
      have hnl : (nx (natN next) u).length = (next.getD u []).length := by rw [natN_nx, natL_length]
      have hsl := hclo'.len
      unfold okK at hok
      generalize hll2 : next.getD u [] = l at *
      generalize hvv : l.getD k 0 = v at *
      have hsg := seenI_getD seen' v.toNat
      refine wpC.soundL (cs := [(1, [], 1), (2, [], 1), (14, [], 2)]) follows (by kernel_rfl) ?_
      repeat' first | (refine Ad.introL (by first | omega | (unfold inI; omega)) ?_) | (refine ifQ_decL (fun _ => ?_) (fun _ => ?_)) | (simp -implicitDefEqProofs only [z1, z2, z3, z4, z5, z6, z7, z8, z9, z10, z11, z12, z13, z14, ↓z15, ↓z16, ↓z17, ↓z18, ↓z19, ↓z20, ↓z21, ↓z22, ↓z23, ↓z24, ↓z25, z26, z27, z28, reduceIte, Nat.reduceEqDiff, Nat.reduceSub, Nat.reduceAdd, z29, z30, z31, z32, alN, isAl, z33, z34, z35, z36, z37, z38, z39, z40, cwGet, z41, z42, z43, z44, z45, z46, z47, z48, z49, z50, z51, z52, z53, z54, z55, z56, z57, z58, z59, z60, z61, z62, z63, z64, z65, z66, z67, z68, z69, z70, z71, z72, z73, z74, z75, z76, z77, z78, z79, z80, z81, z82, z83, z84, z85, z86, z87, z88, z89, z90, z91, z92, z93, z94, z95, z96, z97, z98, z99, z100, z101, z102, z103, z104, z105, z106, z107, z108, z109, z110, z111, ↓z112, z113, z114, z115, z116, z117, z118, z119, z120, z121, z122, z123, z124, z125, z126, z127, z128, z129, z130, z131, z132, z133, z134, z135, z136, z137, z138, z139, z140, z141, z142, z143, z144, z145, Nat.reduceBEq, z146, z147, z148, z149, z150, z151, z152, z153, z154, z155, z156, z157, z158, spl, z159, partsL, chunk, z160, z161, z162, z163, z164, z165, z166, Nat.reduceLT, Nat.reduceLeDiff, Nat.reduceMul, z167, z168, z169, z170, z171, z172, z173, z174, z175, z176, z177, z178, z179, z180, z181, z182, z183, z184, z185, z186, z187, z188, z189, z190, z191, z192, z193, z194, z195, z196, z197, z198, z199, z200, z201, z202, z203, z204, z205, z206, z207, z208, z209, z210, z211, z212, z213, z214, z215, z216, z217, z218, z219, z220, z221, z222, z223, z224, z225, z226, z227, z228, z229, z230, z231, z232, z233, z234, z235, z236, z237, z238, z239, z240, z241, z242, z243, z244, z245, z246, z247, z248, alGet, z249, z250, z251, z252, z253, z254, z255, z256, z257, z258, z259, z260, z261, ↓z262, z263, z264, z265, z266, z267, z268, z269, z270, z271, z272, z273, z274, z275, z276, z277, z278, Nat.reduceBNe, z279, z280, z281, z282, z283, z284, z285, z286, z287, z288, z289, z290, z291, z292, z293, z294, z295, z296, z297, z298, z299, z300, z301, z302, z303, z304, z305, z306, z307, z308, z309, z310, z311, z312, z313, z314, z315, z316, z317, z318, z319, z320, insC, blockC, arrC, graphC, ix22, ix29, ix33, ix35, ix40, ix47, ix53, ix57, ld3, ld4, ld22, ld33, ld35, ld40, ld42, ld47, ld57, ld64, ld65, ld69, sz3, sz4, sz22, sz35, sz42, sz47, sz57, sz64, sz69, fl42_5, fl49_0, fl49_1, fl49_2, fl49_3, fl49_4, fl49_5, fl49_6, fl64_0, fl69_0, fl69_5, fl73_0, fl73_1, zr3, zr42, zr64, zr69, el22, el29, el33, el35, el40, el47, el53, el57, bl42, fp42_0, fp42_1, fp42_2, fp42_3, fp42_4, fp42_5, bl49, zr49, fp49_0, fp49_1, fp49_2, fp49_3, fp49_4, bl64, bl69, fp69_0, fp69_1, fp69_2, fp69_3, fp69_4, fp69_5, bl73, zr73, fp73_0, fp73_1, underlying22, underlying29, underlying33, underlying35, underlying40, underlying47, underlying53, underlying57, castL_length, hll2, hvv, hsg, hsl, seenI_length, hgl]) | (refine ifQ.introL (fun _ => ?_) (fun _ => ?_))
      · rename_i h1 h2
        refine View.bool ?_
        symm
        rw [pathB_true]
        have hbv : (nx (natN next) u).getD k 0 = b := by rw [hnk]; omega
        rw [← hbv]
        exact PathP.snoc ((hclo'.cur u k rfl).2.2.imp id (hclo'.snd u)) (nx_mem (by omega))
      · rename_i h1 h2 h3
        have hkl : k < (nx (natN next) u).length := by omega
        have hsv : seen'.getD v.toNat false = false := by
          cases hh : seen'.getD v.toNat false with
          | false => rfl
          | true => rw [hh] at h3; simp at h3
        have hvn : v.toNat < (natN next).length := by have := hok (by omega); omega
        have hm := hclo'.mark (q' := q' ++ [v.toNat]) hkl (by omega) (fun x => by rw [List.mem_append, List.mem_singleton, hnk])
        rw [hnk] at hm
        have hus := unseen_set (seen := seen') (t := v.toNat) (by omega) hsv
        have hvb : v.toNat ≠ b := by have := hok (by omega); omega
        refine ⟨(k + 1, seen'.set v.toNat true, [], q' ++ [v.toNat]), ⟨hm, ?_, ?_, ?_⟩, by show _ - (k + 1) < _; omega, Imp.cutF (X := [_, _]) ⟨⟨_, rfl, .refl _⟩, ⟨_, rfl, .refl _⟩, ⟨_, rfl, .refl _⟩, ⟨_, rfl, .eq (by simp)⟩, ⟨_, rfl, .refl _⟩, ⟨_, rfl, .refl _⟩, trivial⟩ ⟨.rows (by rw [seenI_set]), .rows ?_, .refl _, .refl _, trivial⟩ (by simp [refs, liveB]) ⟨rowsI_frz _, rowsI_frz _, trivial⟩ (by simp) (by simp; omega)⟩
        · rw [getD_set (by omega), if_neg (Ne.symm hvb)]; exact hsb'
        · simp; omega
        · simp; omega
        · have h0 := (hok (by omega)).1
          have e : ((v.toNat : Nat) : Int) = v := by omega
          simp [castL, e]
          rw [List.take_of_length_le (by simp)]
      · rename_i h1 h2 h3
        have hkl : k < (nx (natN next) u).length := by omega
        have hsv : seen'.getD v.toNat false = true := by
          cases hh : seen'.getD v.toNat false with
          | true => rfl
          | false => rw [hh] at h3; simp at h3
        refine ⟨(k + 1, seen', pre', q'), ⟨hclo'.skip hkl (by rw [hnk]; exact hsv), hsb', hlen', hmu⟩, by show _ - (k + 1) < _; omega, Imp.gen ⟨⟨_, rfl, .refl _⟩, ⟨_, rfl, .refl _⟩, ⟨_, rfl, .refl _⟩, ⟨_, rfl, .refl _⟩, ⟨_, rfl, .refl _⟩, ⟨_, rfl, .refl _⟩, trivial⟩ (.refl _) (by simp)⟩
      · rename_i h1
        obtain rfl : k = (nx (natN next) u).length := by omega
        exact ⟨(seen', pre', q'), ⟨hclo'.up, hsb', hlen'⟩, by simp; omega, Imp.gen ⟨⟨_, rfl, .refl _⟩, ⟨_, rfl, .refl _⟩, ⟨_, rfl, .refl _⟩, ⟨_, rfl, .refl _⟩, trivial⟩ (.refl _) (by simp)⟩
    · rename_i h
      omega
end Go.Aw
