/- For the proofs: all that can be reached from a place. -/
import Derived.Test.YteeopipgglngmaaFn15
set_option linter.all false
set_option linter.unusedSimpArgs false
set_option linter.unusedVariables false
set_option maxRecDepth 100000
namespace Go.Aw
open Go Go.Proofs.Try Go.Tar

noncomputable def reachL (next : List (List Int)) (a : Nat) : List Bool := (List.range next.length).map fun v => pathB (natN next) a v
theorem reachL_length (next : List (List Int)) (a : Nat) : (reachL next a).length = next.length := by simp [reachL]
theorem reachL_getD (next : List (List Int)) (a v : Nat) (hv : v < next.length) : (reachL next a).getD v false = pathB (natN next) a v := by
  rw [List.getD_eq_getElem?_getD, reachL, List.getElem?_map, List.getElem?_range hv]
  rfl
theorem clo_reachL {next : List (List Int)} {a : Nat} {seen : List Bool} (h : Clo (natN next) a seen [] none) : seen = reachL next a := by
  have hl := h.len
  rw [natN_length] at hl
  refine List.ext_getElem (by rw [reachL_length, hl]) fun i h1 h2 => ?_
  have h3 := h.fin i
  have h4 := reachL_getD next a i (by omega)
  rw [List.getD_eq_getElem?_getD, List.getElem?_eq_getElem h1] at h3
  rw [List.getD_eq_getElem?_getD, List.getElem?_eq_getElem h2] at h4
  simp only [Option.getD_some] at h3 h4
  rw [h4]
  cases hs : seen[i] with
  | true => exact (pathB_true.2 (h3.1 hs)).symm
  | false => exact (pathB_false.2 fun hp => by rw [h3.2 hp] at hs; cases hs).symm

set_option maxHeartbeats 8000000 in
theorem reachedP (G : Glob) (next : List (List Int)) (a : Nat) (hval : validB next = true) (ha : a < next.length) (hn : next.length ≤ 1000000) (hl : ∀ l ∈ next, l.length ≤ 1000000) :
    PCall prog G 24 [.ro 1 (rowsII next), .int .i64 a] (.ro 1 (rowsB (reachL next a))) := by
  refine PCall.intro func24 (by kernel_rfl) rfl (by rw [ntmps24]; simp) ?_
  rw [ntmps24, results24]
  refine wpC.soundL (cs := [(1, [], 1), (2, [], 1), (11, [], 2)]) follows (by kernel_rfl) ?_
  repeat' first | (refine Ad.introL (by first | omega | (unfold inI; omega)) ?_) | (refine ifQ_decL (fun _ => ?_) (fun _ => ?_)) | (simp -implicitDefEqProofs only [z1, z2, z3, z4, z5, z6, z7, z8, z9, z10, z11, z12, z13, z14, ↓z15, ↓z16, ↓z17, ↓z18, ↓z19, ↓z20, ↓z21, ↓z22, ↓z23, ↓z24, ↓z25, z26, z27, z28, reduceIte, Nat.reduceEqDiff, Nat.reduceSub, Nat.reduceAdd, z29, z30, z31, z32, alN, isAl, z33, z34, z35, z36, z37, z38, z39, z40, cwGet, z41, z42, z43, z44, z45, z46, z47, z48, z49, z50, z51, z52, z53, z54, z55, z56, z57, z58, z59, z60, z61, z62, z63, z64, z65, z66, z67, z68, z69, z70, z71, z72, z73, z74, z75, z76, z77, z78, z79, z80, z81, z82, z83, z84, z85, z86, z87, z88, z89, z90, z91, z92, z93, z94, z95, z96, z97, z98, z99, z100, z101, z102, z103, z104, z105, z106, z107, z108, z109, z110, z111, ↓z112, z113, z114, z115, z116, z117, z118, z119, z120, z121, z122, z123, z124, z125, z126, z127, z128, z129, z130, z131, z132, z133, z134, z135, z136, z137, z138, z139, z140, z141, z142, z143, z144, z145, Nat.reduceBEq, z146, z147, z148, z149, z150, z151, z152, z153, z154, z155, z156, z157, z158, spl, z159, partsL, chunk, z160, z161, z162, z163, z164, z165, z166, Nat.reduceLT, Nat.reduceLeDiff, Nat.reduceMul, z167, z168, z169, z170, z171, z172, z173, z174, z175, z176, z177, z178, z179, z180, z181, z182, z183, z184, z185, z186, z187, z188, z189, z190, z191, z192, z193, z194, z195, z196, z197, z198, z199, z200, z201, z202, z203, z204, z205, z206, z207, z208, z209, z210, z211, z212, z213, z214, z215, z216, z217, z218, z219, z220, z221, z222, z223, z224, z225, z226, z227, z228, z229, z230, z231, z232, z233, z234, z235, z236, z237, z238, z239, z240, z241, z242, z243, z244, z245, z246, z247, z248, alGet, z249, z250, z251, z252, z253, z254, z255, z256, z257, z258, z259, z260, z261, ↓z262, z263, z264, z265, z266, z267, z268, z269, z270, z271, z272, z273, z274, z275, z276, z277, z278, Nat.reduceBNe, z279, z280, z281, z282, z283, z284, z285, z286, z287, z288, z289, z290, z291, z292, z293, z294, z295, z296, z297, z298, z299, z300, z301, z302, z303, z304, z305, z306, z307, z308, z309, z310, z311, z312, z313, z314, z315, z316, z317, z318, z319, z320, insC, blockC, arrC, graphC, ix22, ix29, ix33, ix35, ix40, ix47, ix53, ix57, ld3, ld4, ld22, ld33, ld35, ld40, ld42, ld47, ld57, ld64, ld65, ld69, sz3, sz4, sz22, sz35, sz42, sz47, sz57, sz64, sz69, fl42_5, fl49_0, fl49_1, fl49_2, fl49_3, fl49_4, fl49_5, fl49_6, fl64_0, fl69_0, fl69_5, fl73_0, fl73_1, zr3, zr42, zr64, zr69, el22, el29, el33, el35, el40, el47, el53, el57, bl42, fp42_0, fp42_1, fp42_2, fp42_3, fp42_4, fp42_5, bl49, zr49, fp49_0, fp49_1, fp49_2, fp49_3, fp49_4, bl64, bl69, fp69_0, fp69_1, fp69_2, fp69_3, fp69_4, fp69_5, bl73, zr73, fp73_0, fp73_1, underlying22, underlying29, underlying33, underlying35, underlying40, underlying47, underlying53, underlying57, castL_length, cast_pred]) | (refine ifQ.introL (fun _ => ?_) (fun _ => ?_))
  have hgl := natN_length next
  refine AWP.loop (fun x : List Bool × List Nat × List Nat => ⟨tab [(0, .ro 1 (rowsII next)), (5, .sl 0 1 0 next.length next.length), (6, .sl 1 1 0 x.2.1.length (x.2.1.length + x.2.2.length))], [some ⟨1, rowsB x.1⟩, some ⟨1, rowsI (castL (x.2.1 ++ x.2.2))⟩], [1, 2, 3]⟩)
    (fun x => Clo (natN next) a x.1 x.2.1 none ∧ x.2.1.length + unseen x.1 ≤ next.length + 1) (fun x => 2 * unseen x.1 + x.2.1.length) (List.replicate next.length false, [a], []) (Imp.gen ⟨⟨_, rfl, .refl _⟩, ⟨_, rfl, .refl _⟩, ⟨_, rfl, .refl _⟩, trivial⟩ ⟨.rows (by rw [rowsB_rep]), .rows (by simp [rowsI, castL]), trivial⟩ (by simp)) ?_ ?_
  · refine ⟨?_, ?_⟩
    · have := Clo.init (g := natN next) (a := a) (by omega)
      rwa [hgl] at this
    · have : unseen (List.replicate next.length false) = next.length := by simp [unseen]
      simp
      omega
  rintro ⟨seen, q, rest⟩ ⟨hclo, hlen⟩
  dsimp only at hclo hlen
  have hsl := hclo.len
  rw [hgl] at hsl
  rcases List.eq_nil_or_concat q with rfl | ⟨q, u, rfl⟩
  · have hd : decide ((0 : Int) < ((0 : Nat) : Int)) = false := by simp
    refine wpC.soundL (cs := [(1, [], 1), (2, [], 1), (11, [], 2)]) follows (by kernel_rfl) ?_
    repeat' first | (refine Ad.introL (by first | omega | (unfold inI; omega)) ?_) | (refine ifQ_decL (fun _ => ?_) (fun _ => ?_)) | (simp -implicitDefEqProofs only [z1, z2, z3, z4, z5, z6, z7, z8, z9, z10, z11, z12, z13, z14, ↓z15, ↓z16, ↓z17, ↓z18, ↓z19, ↓z20, ↓z21, ↓z22, ↓z23, ↓z24, ↓z25, z26, z27, z28, reduceIte, Nat.reduceEqDiff, Nat.reduceSub, Nat.reduceAdd, z29, z30, z31, z32, alN, isAl, z33, z34, z35, z36, z37, z38, z39, z40, cwGet, z41, z42, z43, z44, z45, z46, z47, z48, z49, z50, z51, z52, z53, z54, z55, z56, z57, z58, z59, z60, z61, z62, z63, z64, z65, z66, z67, z68, z69, z70, z71, z72, z73, z74, z75, z76, z77, z78, z79, z80, z81, z82, z83, z84, z85, z86, z87, z88, z89, z90, z91, z92, z93, z94, z95, z96, z97, z98, z99, z100, z101, z102, z103, z104, z105, z106, z107, z108, z109, z110, z111, ↓z112, z113, z114, z115, z116, z117, z118, z119, z120, z121, z122, z123, z124, z125, z126, z127, z128, z129, z130, z131, z132, z133, z134, z135, z136, z137, z138, z139, z140, z141, z142, z143, z144, z145, Nat.reduceBEq, z146, z147, z148, z149, z150, z151, z152, z153, z154, z155, z156, z157, z158, spl, z159, partsL, chunk, z160, z161, z162, z163, z164, z165, z166, Nat.reduceLT, Nat.reduceLeDiff, Nat.reduceMul, z167, z168, z169, z170, z171, z172, z173, z174, z175, z176, z177, z178, z179, z180, z181, z182, z183, z184, z185, z186, z187, z188, z189, z190, z191, z192, z193, z194, z195, z196, z197, z198, z199, z200, z201, z202, z203, z204, z205, z206, z207, z208, z209, z210, z211, z212, z213, z214, z215, z216, z217, z218, z219, z220, z221, z222, z223, z224, z225, z226, z227, z228, z229, z230, z231, z232, z233, z234, z235, z236, z237, z238, z239, z240, z241, z242, z243, z244, z245, z246, z247, z248, alGet, z249, z250, z251, z252, z253, z254, z255, z256, z257, z258, z259, z260, z261, ↓z262, z263, z264, z265, z266, z267, z268, z269, z270, z271, z272, z273, z274, z275, z276, z277, z278, Nat.reduceBNe, z279, z280, z281, z282, z283, z284, z285, z286, z287, z288, z289, z290, z291, z292, z293, z294, z295, z296, z297, z298, z299, z300, z301, z302, z303, z304, z305, z306, z307, z308, z309, z310, z311, z312, z313, z314, z315, z316, z317, z318, z319, z320, insC, blockC, arrC, graphC, ix22, ix29, ix33, ix35, ix40, ix47, ix53, ix57, ld3, ld4, ld22, ld33, ld35, ld40, ld42, ld47, ld57, ld64, ld65, ld69, sz3, sz4, sz22, sz35, sz42, sz47, sz57, sz64, sz69, fl42_5, fl49_0, fl49_1, fl49_2, fl49_3, fl49_4, fl49_5, fl49_6, fl64_0, fl69_0, fl69_5, fl73_0, fl73_1, zr3, zr42, zr64, zr69, el22, el29, el33, el35, el40, el47, el53, el57, bl42, fp42_0, fp42_1, fp42_2, fp42_3, fp42_4, fp42_5, bl49, zr49, fp49_0, fp49_1, fp49_2, fp49_3, fp49_4, bl64, bl69, fp69_0, fp69_1, fp69_2, fp69_3, fp69_4, fp69_5, bl73, zr73, fp73_0, fp73_1, underlying22, underlying29, underlying33, underlying35, underlying40, underlying47, underlying53, underlying57, castL_length, cast_pred, hd]) | (refine ifQ.introL (fun _ => ?_) (fun _ => ?_))
    rw [← clo_reachL hclo]
    exact View.own rfl (by rw [rowsB_length]; exact hsl) (rowsB_frz _)
  · rw [List.concat_eq_append] at *
    have hu := hclo.lt u (by simp)
    have hpop := hclo.pop (u := u) (q' := q) (by simp [or_comm])
    have hql : q.length + 1 + unseen seen ≤ next.length + 1 := by simpa using hlen
    have hll : (next.getD u []).length ≤ 1000000 := hl _ (getD_mem (by omega))
    have hhd : (castL (q ++ [u] ++ rest)).getD q.length 0 = u := by rw [castL_getD]; simp
    have hd : decide ((0 : Int) < ((q.length + 1 : Nat) : Int)) = true := decide_eq_true (by omega)
    have hrl : (q ++ [u] ++ rest).length = q.length + 1 + rest.length := by simp; omega
    refine wpC.soundL (cs := [(1, [], 1), (2, [], 1), (11, [], 2)]) follows (by kernel_rfl) ?_
    repeat' first | (refine Ad.introL (by first | omega | (unfold inI; omega)) ?_) | (refine ifQ_decL (fun _ => ?_) (fun _ => ?_)) | (simp -implicitDefEqProofs only [z1, z2, z3, z4, z5, z6, z7, z8, z9, z10, z11, z12, z13, z14, ↓z15, ↓z16, ↓z17, ↓z18, ↓z19, ↓z20, ↓z21, ↓z22, ↓z23, ↓z24, ↓z25, z26, z27, z28, reduceIte, Nat.reduceEqDiff, Nat.reduceSub, Nat.reduceAdd, z29, z30, z31, z32, alN, isAl, z33, z34, z35, z36, z37, z38, z39, z40, cwGet, z41, z42, z43, z44, z45, z46, z47, z48, z49, z50, z51, z52, z53, z54, z55, z56, z57, z58, z59, z60, z61, z62, z63, z64, z65, z66, z67, z68, z69, z70, z71, z72, z73, z74, z75, z76, z77, z78, z79, z80, z81, z82, z83, z84, z85, z86, z87, z88, z89, z90, z91, z92, z93, z94, z95, z96, z97, z98, z99, z100, z101, z102, z103, z104, z105, z106, z107, z108, z109, z110, z111, ↓z112, z113, z114, z115, z116, z117, z118, z119, z120, z121, z122, z123, z124, z125, z126, z127, z128, z129, z130, z131, z132, z133, z134, z135, z136, z137, z138, z139, z140, z141, z142, z143, z144, z145, Nat.reduceBEq, z146, z147, z148, z149, z150, z151, z152, z153, z154, z155, z156, z157, z158, spl, z159, partsL, chunk, z160, z161, z162, z163, z164, z165, z166, Nat.reduceLT, Nat.reduceLeDiff, Nat.reduceMul, z167, z168, z169, z170, z171, z172, z173, z174, z175, z176, z177, z178, z179, z180, z181, z182, z183, z184, z185, z186, z187, z188, z189, z190, z191, z192, z193, z194, z195, z196, z197, z198, z199, z200, z201, z202, z203, z204, z205, z206, z207, z208, z209, z210, z211, z212, z213, z214, z215, z216, z217, z218, z219, z220, z221, z222, z223, z224, z225, z226, z227, z228, z229, z230, z231, z232, z233, z234, z235, z236, z237, z238, z239, z240, z241, z242, z243, z244, z245, z246, z247, z248, alGet, z249, z250, z251, z252, z253, z254, z255, z256, z257, z258, z259, z260, z261, ↓z262, z263, z264, z265, z266, z267, z268, z269, z270, z271, z272, z273, z274, z275, z276, z277, z278, Nat.reduceBNe, z279, z280, z281, z282, z283, z284, z285, z286, z287, z288, z289, z290, z291, z292, z293, z294, z295, z296, z297, z298, z299, z300, z301, z302, z303, z304, z305, z306, z307, z308, z309, z310, z311, z312, z313, z314, z315, z316, z317, z318, z319, z320, insC, blockC, arrC, graphC, ix22, ix29, ix33, ix35, ix40, ix47, ix53, ix57, ld3, ld4, ld22, ld33, ld35, ld40, ld42, ld47, ld57, ld64, ld65, ld69, sz3, sz4, sz22, sz35, sz42, sz47, sz57, sz64, sz69, fl42_5, fl49_0, fl49_1, fl49_2, fl49_3, fl49_4, fl49_5, fl49_6, fl64_0, fl69_0, fl69_5, fl73_0, fl73_1, zr3, zr42, zr64, zr69, el22, el29, el33, el35, el40, el47, el53, el57, bl42, fp42_0, fp42_1, fp42_2, fp42_3, fp42_4, fp42_5, bl49, zr49, fp49_0, fp49_1, fp49_2, fp49_3, fp49_4, bl64, bl69, fp69_0, fp69_1, fp69_2, fp69_3, fp69_4, fp69_5, bl73, zr73, fp73_0, fp73_1, underlying22, underlying29, underlying33, underlying35, underlying40, underlying47, underlying53, underlying57, castL_length, cast_pred, hhd, hd, hrl]) | (refine ifQ.introL (fun _ => ?_) (fun _ => ?_))
    refine AWP.loop (fun x : Nat × List Bool × List Nat × List Nat => ⟨tab [(0, .ro 1 (rowsII next)), (5, .sl 0 1 0 next.length next.length), (6, .sl 1 1 0 x.2.2.1.length (x.2.2.1.length + x.2.2.2.length)), (7, .int .i64 u), (8, .int .i64 x.1)], [some ⟨1, rowsB x.2.1⟩, some ⟨1, rowsI (castL (x.2.2.1 ++ x.2.2.2))⟩], [1, 2, 3]⟩)
      (fun x => Clo (natN next) a x.2.1 x.2.2.1 (some (u, x.1)) ∧ x.2.2.1.length + unseen x.2.1 ≤ next.length + 1 ∧ 2 * unseen x.2.1 + x.2.2.1.length ≤ 2 * unseen seen + q.length) (fun x => (next.getD u []).length - x.1) (0, seen, q, u :: rest)
      (Imp.gen ⟨⟨_, rfl, .refl _⟩, ⟨_, rfl, .refl _⟩, ⟨_, rfl, .eq (congrArg (AV.sl 1 1 0 q.length) (by simp; omega))⟩, ⟨_, rfl, .refl _⟩, ⟨_, rfl, .refl _⟩, trivial⟩ ⟨.refl _, .rows (by simp), trivial⟩ (by simp)) ⟨hpop, by simp; omega, by simp⟩ ?_
    rintro ⟨k, seen', q', rest'⟩ ⟨hclo', hlen', hmu⟩
    dsimp only at hclo' hlen' hmu
    have hk := (hclo'.cur u k rfl).2.1
    rw [natN_nx, natL_length] at hk
    have hok := fun h => okK_in (next := next) hval (u := u) (k := k) h
    have hnk : (nx (natN next) u).getD k 0 = ((next.getD u []).getD k 0).toNat := by rw [natN_nx, natL_getD]
    have hnl : (nx (natN next) u).length = (next.getD u []).length := by rw [natN_nx, natL_length]
    have hsl' := hclo'.len
    unfold okK at hok
    have hrl' : (q' ++ rest').length = q'.length + rest'.length := by simp
    generalize hll2 : next.getD u [] = l at *
    generalize hvv : l.getD k 0 = v at *
    generalize hsg : seen'.getD v.toNat false = sv at *
    refine wpC.soundL (cs := [(1, [], 1), (2, [], 1), (11, [], 2)]) follows (by kernel_rfl) ?_
    repeat' first | (refine Ad.introL (by first | omega | (unfold inI; omega)) ?_) | (refine ifQ_decL (fun _ => ?_) (fun _ => ?_)) | (simp -implicitDefEqProofs only [z1, z2, z3, z4, z5, z6, z7, z8, z9, z10, z11, z12, z13, z14, ↓z15, ↓z16, ↓z17, ↓z18, ↓z19, ↓z20, ↓z21, ↓z22, ↓z23, ↓z24, ↓z25, z26, z27, z28, reduceIte, Nat.reduceEqDiff, Nat.reduceSub, Nat.reduceAdd, z29, z30, z31, z32, alN, isAl, z33, z34, z35, z36, z37, z38, z39, z40, cwGet, z41, z42, z43, z44, z45, z46, z47, z48, z49, z50, z51, z52, z53, z54, z55, z56, z57, z58, z59, z60, z61, z62, z63, z64, z65, z66, z67, z68, z69, z70, z71, z72, z73, z74, z75, z76, z77, z78, z79, z80, z81, z82, z83, z84, z85, z86, z87, z88, z89, z90, z91, z92, z93, z94, z95, z96, z97, z98, z99, z100, z101, z102, z103, z104, z105, z106, z107, z108, z109, z110, z111, ↓z112, z113, z114, z115, z116, z117, z118, z119, z120, z121, z122, z123, z124, z125, z126, z127, z128, z129, z130, z131, z132, z133, z134, z135, z136, z137, z138, z139, z140, z141, z142, z143, z144, z145, Nat.reduceBEq, z146, z147, z148, z149, z150, z151, z152, z153, z154, z155, z156, z157, z158, spl, z159, partsL, chunk, z160, z161, z162, z163, z164, z165, z166, Nat.reduceLT, Nat.reduceLeDiff, Nat.reduceMul, z167, z168, z169, z170, z171, z172, z173, z174, z175, z176, z177, z178, z179, z180, z181, z182, z183, z184, z185, z186, z187, z188, z189, z190, z191, z192, z193, z194, z195, z196, z197, z198, z199, z200, z201, z202, z203, z204, z205, z206, z207, z208, z209, z210, z211, z212, z213, z214, z215, z216, z217, z218, z219, z220, z221, z222, z223, z224, z225, z226, z227, z228, z229, z230, z231, z232, z233, z234, z235, z236, z237, z238, z239, z240, z241, z242, z243, z244, z245, z246, z247, z248, alGet, z249, z250, z251, z252, z253, z254, z255, z256, z257, z258, z259, z260, z261, ↓z262, z263, z264, z265, z266, z267, z268, z269, z270, z271, z272, z273, z274, z275, z276, z277, z278, Nat.reduceBNe, z279, z280, z281, z282, z283, z284, z285, z286, z287, z288, z289, z290, z291, z292, z293, z294, z295, z296, z297, z298, z299, z300, z301, z302, z303, z304, z305, z306, z307, z308, z309, z310, z311, z312, z313, z314, z315, z316, z317, z318, z319, z320, insC, blockC, arrC, graphC, ix22, ix29, ix33, ix35, ix40, ix47, ix53, ix57, ld3, ld4, ld22, ld33, ld35, ld40, ld42, ld47, ld57, ld64, ld65, ld69, sz3, sz4, sz22, sz35, sz42, sz47, sz57, sz64, sz69, fl42_5, fl49_0, fl49_1, fl49_2, fl49_3, fl49_4, fl49_5, fl49_6, fl64_0, fl69_0, fl69_5, fl73_0, fl73_1, zr3, zr42, zr64, zr69, el22, el29, el33, el35, el40, el47, el53, el57, bl42, fp42_0, fp42_1, fp42_2, fp42_3, fp42_4, fp42_5, bl49, zr49, fp49_0, fp49_1, fp49_2, fp49_3, fp49_4, bl64, bl69, fp69_0, fp69_1, fp69_2, fp69_3, fp69_4, fp69_5, bl73, zr73, fp73_0, fp73_1, underlying22, underlying29, underlying33, underlying35, underlying40, underlying47, underlying53, underlying57, castL_length, cast_pred, hll2, hvv, hsg, hsl', hgl, hrl']) | (refine ifQ.introL (fun _ => ?_) (fun _ => ?_))
    · rename_i h1 h2
      have hkl : k < (nx (natN next) u).length := by omega
      exact ⟨(k + 1, seen', q', rest'), ⟨hclo'.skip hkl (by rw [hnk, hsg]; exact h2), hlen', hmu⟩, by show _ - (k + 1) < _; omega, Imp.gen ⟨⟨_, rfl, .refl _⟩, ⟨_, rfl, .refl _⟩, ⟨_, rfl, .refl _⟩, ⟨_, rfl, .refl _⟩, ⟨_, rfl, .refl _⟩, trivial⟩ (.refl _) (by simp)⟩
    · rename_i h1 h2
      have hkl : k < (nx (natN next) u).length := by omega
      have hvn : v.toNat < (natN next).length := by have := hok (by omega); omega
      have hm := hclo'.mark (q' := q' ++ [v.toNat]) hkl (by omega) (fun x => by rw [List.mem_append, List.mem_singleton, hnk])
      rw [hnk] at hm
      have hus := unseen_set (seen := seen') (t := v.toNat) (by omega) (by rw [hsg]; exact h2)
      refine ⟨(k + 1, seen'.set v.toNat true, q' ++ [v.toNat], []), ⟨hm, ?_, ?_⟩, by show _ - (k + 1) < _; omega, Imp.cutF (X := [_, _]) ⟨⟨_, rfl, .refl _⟩, ⟨_, rfl, .refl _⟩, ⟨_, rfl, .eq (by simp)⟩, ⟨_, rfl, .refl _⟩, ⟨_, rfl, .refl _⟩, trivial⟩ ⟨.refl _, .rows ?_, .refl _, .refl _, trivial⟩ (by simp [refs, liveB]) ⟨rowsB_frz _, rowsI_frz _, trivial⟩ (by simp) (by simp; omega)⟩
      · simp; omega
      · simp; omega
      · have h0 := (hok (by omega)).1
        have e : ((v.toNat : Nat) : Int) = v := by omega
        simp [castL, e]
    · rename_i h1
      obtain rfl : k = (nx (natN next) u).length := by omega
      exact ⟨(seen', q', rest'), ⟨hclo'.up, hlen'⟩, by simp; omega, Imp.gen ⟨⟨_, rfl, .refl _⟩, ⟨_, rfl, .refl _⟩, ⟨_, rfl, .refl _⟩, trivial⟩ (.refl _) (by simp)⟩
end Go.Aw
