/- For the proofs: who calls himself, the plain way. -/
import Derived.Test.YteeopipgglngmaaFn19
import Derived.Test.YteeopipgglngmaaFn18
import Derived.Test.YteeopipgglngmaaFn16
set_option linter.all false
set_option linter.unusedSimpArgs false
set_option linter.unusedVariables false
set_option maxRecDepth 100000
namespace Go.Aw
open Go Go.Proofs.Try Go.Tar

theorem rv_path {next : List (List Int)} (h : validB next = true) {l : List Int} (hl : l ∈ partsLL next) {v : Int} (hv : v ∈ l) : rv next l v = pathB (natN next) v.toNat v.toNat := by
  have hP := partsLL_parts h
  have hvo := hP.rng l hl v hv
  unfold okK at hvo
  have hself : (next.getD v.toNat []).contains v = true → PathP (natN next) v.toNat v.toNat := fun hc => by
    refine ⟨v.toNat, ?_, .refl _⟩
    rw [natN_nx]
    exact List.mem_map.2 ⟨v, by simpa using hc, rfl⟩
  unfold rv
  by_cases h1 : 1 < l.length
  · rw [decide_eq_true h1, Bool.true_or]
    symm
    rw [pathB_true]
    obtain ⟨u, hu, hne⟩ : ∃ u ∈ l, u ≠ v := by
      have hnd : l.Nodup := (hP.asc l hl).imp fun h => by omega
      match l, h1, hnd with
      | a :: b :: l, _, hnd =>
        by_cases e : a = v
        · refine ⟨b, by simp, fun e' => ?_⟩
          rw [e, e'] at hnd
          simp at hnd
        · exact ⟨a, by simp, e⟩
    have p1 := hP.conn l hl v hv u hu (Ne.symm hne)
    have p2 := hP.conn l hl u hu v hv hne
    obtain ⟨c, hc, hp⟩ := p1
    exact ⟨c, hc, hp.trans p2.path⟩
  · rw [decide_eq_false h1, Bool.false_or]
    cases hc : (next.getD v.toNat []).contains v with
    | true => exact (pathB_true.2 (hself hc)).symm
    | false =>
      symm
      rw [pathB_false]
      intro hp
      rw [← net_pathP] at hp
      have hparts := partsF_parts sorts_canon (netOf_rng h)
      simp only [partsLL, castLL, List.mem_map] at hl
      obtain ⟨q, hq, rfl⟩ := hl
      have hvq := (mem_castL.1 hv).2
      obtain ⟨c, hcv, hpc⟩ := hp
      have hcl := netOf_rng h _ _ hcv
      have hcq : c ∈ q := by
        by_cases e : c = v.toNat
        · rw [e]; exact hvq
        · exact (hparts.iff hq hvq hcl).2 (.inr ⟨hpc.pathP e, ⟨c, hcv, .refl _⟩⟩)
      have hcv2 : c = v.toNat := by
        rw [castL_length] at h1
        match q, h1, hcq, hvq with
        | [], _, hcq, _ => simp at hcq
        | [a], _, hcq, hvq => rw [List.mem_singleton.1 hcq, List.mem_singleton.1 hvq]
        | _ :: _ :: _, h1, _, _ => simp at h1
      subst hcv2
      rw [net_nx, natN_nx] at hcv
      obtain ⟨x, hx, hxe⟩ := List.mem_map.1 hcv
      have hxo := validB_iff.1 h _ (getD_mem (d := []) (show v.toNat < next.length by omega)) x hx
      unfold okK at hxo
      have : x = v := by omega
      subst this
      rw [List.contains_iff_mem.2 hx] at hc
      cases hc
noncomputable def roundL (next : List (List Int)) : List Bool := (List.range next.length).map fun v => pathB (natN next) v v
theorem roundL_length (next : List (List Int)) : (roundL next).length = next.length := by simp [roundL]
theorem roundL_getD (next : List (List Int)) (v : Nat) (hv : v < next.length) : (roundL next).getD v false = pathB (natN next) v v := by
  rw [List.getD_eq_getElem?_getD, roundL, List.getElem?_map, List.getElem?_range hv]
  rfl
theorem roundF_eq (p : List Graph) : roundF p = roundL (calledF p) := by
  have hl := roundF_length p
  have hc := called_length p
  have hval := called_valid p
  refine List.ext_getElem (by rw [roundL_length, hl, hc]) fun i h1 h2 => ?_
  have hi : okK (calledF p).length (i : Int) := ⟨by omega, by omega⟩
  obtain ⟨l, hl2, hil⟩ := List.mem_flatten.1 ((partsLL_parts hval).all i hi)
  have h3 := round_at p hl2 hil
  rw [rv_path hval hl2 hil, Int.toNat_natCast] at h3
  have h4 := roundL_getD (calledF p) i (by omega)
  rw [List.getD_eq_getElem?_getD, List.getElem?_eq_getElem h1] at h3
  rw [List.getD_eq_getElem?_getD, List.getElem?_eq_getElem h2] at h4
  exact h3.trans h4.symm

set_option pp.maxSteps 3000
set_option maxHeartbeats 8000000 in
theorem round2P (G : Glob) (p : List Graph) (hn : p.length ≤ 1000000) (hw : ∀ g ∈ p, okG g) (hc : ∀ g ∈ p, (callsG p.length g).length ≤ 1000000) : PCall prog G 18 [.ro 6 (rowsGr p)] (.ro 1 (rowsB (roundF p))) := by
  rw [roundF_eq]
  have hval := called_valid p
  have hlen := called_length p
  have hcl : ∀ l ∈ calledF p, l.length ≤ 1000000 := fun l hl => by
    simp only [calledF, List.mem_map] at hl
    obtain ⟨g, hg, rfl⟩ := hl
    have := canon_length (callsG p.length g)
    have := hc g hg
    omega
  refine PCall.intro func18 (by kernel_rfl) rfl (by rw [ntmps18]; simp) ?_
  rw [ntmps18, results18]
  refine wpC.soundL (cs := [(6, [], 2)]) follows (by kernel_rfl) ?_
  repeat' first | (refine Ad.introL (by first | omega | (unfold inI; omega)) ?_) | (refine ifQ_decL (fun _ => ?_) (fun _ => ?_)) | (simp -implicitDefEqProofs only [z1, z2, z3, z4, z5, z6, z7, z8, z9, z10, z11, z12, z13, z14, ↓z15, ↓z16, ↓z17, ↓z18, ↓z19, ↓z20, ↓z21, ↓z22, ↓z23, ↓z24, ↓z25, z26, z27, z28, reduceIte, Nat.reduceEqDiff, Nat.reduceSub, Nat.reduceAdd, z29, z30, z31, z32, alN, isAl, z33, z34, z35, z36, z37, z38, z39, z40, cwGet, z41, z42, z43, z44, z45, z46, z47, z48, z49, z50, z51, z52, z53, z54, z55, z56, z57, z58, z59, z60, z61, z62, z63, z64, z65, z66, z67, z68, z69, z70, z71, z72, z73, z74, z75, z76, z77, z78, z79, z80, z81, z82, z83, z84, z85, z86, z87, z88, z89, z90, z91, z92, z93, z94, z95, z96, z97, z98, z99, z100, z101, z102, z103, z104, z105, z106, z107, z108, z109, z110, z111, ↓z112, z113, z114, z115, z116, z117, z118, z119, z120, z121, z122, z123, z124, z125, z126, z127, z128, z129, z130, z131, z132, z133, z134, z135, z136, z137, z138, z139, z140, z141, z142, z143, z144, z145, Nat.reduceBEq, z146, z147, z148, z149, z150, z151, z152, z153, z154, z155, z156, z157, z158, spl, z159, partsL, chunk, z160, z161, z162, z163, z164, z165, z166, Nat.reduceLT, Nat.reduceLeDiff, Nat.reduceMul, z167, z168, z169, z170, z171, z172, z173, z174, z175, z176, z177, z178, z179, z180, z181, z182, z183, z184, z185, z186, z187, z188, z189, z190, z191, z192, z193, z194, z195, z196, z197, z198, z199, z200, z201, z202, z203, z204, z205, z206, z207, z208, z209, z210, z211, z212, z213, z214, z215, z216, z217, z218, z219, z220, z221, z222, z223, z224, z225, z226, z227, z228, z229, z230, z231, z232, z233, z234, z235, z236, z237, z238, z239, z240, z241, z242, z243, z244, z245, z246, z247, z248, alGet, z249, z250, z251, z252, z253, z254, z255, z256, z257, z258, z259, z260, z261, ↓z262, z263, z264, z265, z266, z267, z268, z269, z270, z271, z272, z273, z274, z275, z276, z277, z278, Nat.reduceBNe, z279, z280, z281, z282, z283, z284, z285, z286, z287, z288, z289, z290, z291, z292, z293, z294, z295, z296, z297, z298, z299, z300, z301, z302, z303, z304, z305, z306, z307, z308, z309, z310, z311, z312, z313, z314, z315, z316, z317, z318, z319, z320, insC, blockC, arrC, graphC, ix22, ix29, ix33, ix35, ix40, ix47, ix53, ix57, ld3, ld4, ld22, ld33, ld35, ld40, ld42, ld47, ld57, ld64, ld65, ld69, sz3, sz4, sz22, sz35, sz42, sz47, sz57, sz64, sz69, fl42_5, fl49_0, fl49_1, fl49_2, fl49_3, fl49_4, fl49_5, fl49_6, fl64_0, fl69_0, fl69_5, fl73_0, fl73_1, zr3, zr42, zr64, zr69, el22, el29, el33, el35, el40, el47, el53, el57, bl42, fp42_0, fp42_1, fp42_2, fp42_3, fp42_4, fp42_5, bl49, zr49, fp49_0, fp49_1, fp49_2, fp49_3, fp49_4, bl64, bl69, fp69_0, fp69_1, fp69_2, fp69_3, fp69_4, fp69_5, bl73, zr73, fp73_0, fp73_1, underlying22, underlying29, underlying33, underlying35, underlying40, underlying47, underlying53, underlying57]) | (refine ifQ.introL (fun _ => ?_) (fun _ => ?_))
  refine PureQ.callL (called2P G p hn hw) ?_
  generalize calledF p = next at *
  repeat' first | (refine Ad.introL (by first | omega | (unfold inI; omega)) ?_) | (refine ifQ_decL (fun _ => ?_) (fun _ => ?_)) | (simp -implicitDefEqProofs only [z1, z2, z3, z4, z5, z6, z7, z8, z9, z10, z11, z12, z13, z14, ↓z15, ↓z16, ↓z17, ↓z18, ↓z19, ↓z20, ↓z21, ↓z22, ↓z23, ↓z24, ↓z25, z26, z27, z28, reduceIte, Nat.reduceEqDiff, Nat.reduceSub, Nat.reduceAdd, z29, z30, z31, z32, alN, isAl, z33, z34, z35, z36, z37, z38, z39, z40, cwGet, z41, z42, z43, z44, z45, z46, z47, z48, z49, z50, z51, z52, z53, z54, z55, z56, z57, z58, z59, z60, z61, z62, z63, z64, z65, z66, z67, z68, z69, z70, z71, z72, z73, z74, z75, z76, z77, z78, z79, z80, z81, z82, z83, z84, z85, z86, z87, z88, z89, z90, z91, z92, z93, z94, z95, z96, z97, z98, z99, z100, z101, z102, z103, z104, z105, z106, z107, z108, z109, z110, z111, ↓z112, z113, z114, z115, z116, z117, z118, z119, z120, z121, z122, z123, z124, z125, z126, z127, z128, z129, z130, z131, z132, z133, z134, z135, z136, z137, z138, z139, z140, z141, z142, z143, z144, z145, Nat.reduceBEq, z146, z147, z148, z149, z150, z151, z152, z153, z154, z155, z156, z157, z158, spl, z159, partsL, chunk, z160, z161, z162, z163, z164, z165, z166, Nat.reduceLT, Nat.reduceLeDiff, Nat.reduceMul, z167, z168, z169, z170, z171, z172, z173, z174, z175, z176, z177, z178, z179, z180, z181, z182, z183, z184, z185, z186, z187, z188, z189, z190, z191, z192, z193, z194, z195, z196, z197, z198, z199, z200, z201, z202, z203, z204, z205, z206, z207, z208, z209, z210, z211, z212, z213, z214, z215, z216, z217, z218, z219, z220, z221, z222, z223, z224, z225, z226, z227, z228, z229, z230, z231, z232, z233, z234, z235, z236, z237, z238, z239, z240, z241, z242, z243, z244, z245, z246, z247, z248, alGet, z249, z250, z251, z252, z253, z254, z255, z256, z257, z258, z259, z260, z261, ↓z262, z263, z264, z265, z266, z267, z268, z269, z270, z271, z272, z273, z274, z275, z276, z277, z278, Nat.reduceBNe, z279, z280, z281, z282, z283, z284, z285, z286, z287, z288, z289, z290, z291, z292, z293, z294, z295, z296, z297, z298, z299, z300, z301, z302, z303, z304, z305, z306, z307, z308, z309, z310, z311, z312, z313, z314, z315, z316, z317, z318, z319, z320, insC, blockC, arrC, graphC, ix22, ix29, ix33, ix35, ix40, ix47, ix53, ix57, ld3, ld4, ld22, ld33, ld35, ld40, ld42, ld47, ld57, ld64, ld65, ld69, sz3, sz4, sz22, sz35, sz42, sz47, sz57, sz64, sz69, fl42_5, fl49_0, fl49_1, fl49_2, fl49_3, fl49_4, fl49_5, fl49_6, fl64_0, fl69_0, fl69_5, fl73_0, fl73_1, zr3, zr42, zr64, zr69, el22, el29, el33, el35, el40, el47, el53, el57, bl42, fp42_0, fp42_1, fp42_2, fp42_3, fp42_4, fp42_5, bl49, zr49, fp49_0, fp49_1, fp49_2, fp49_3, fp49_4, bl64, bl69, fp69_0, fp69_1, fp69_2, fp69_3, fp69_4, fp69_5, bl73, zr73, fp73_0, fp73_1, underlying22, underlying29, underlying33, underlying35, underlying40, underlying47, underlying53, underlying57]) | (refine ifQ.introL (fun _ => ?_) (fun _ => ?_))
  have hrl := roundL_length next
  refine AWP.loop (fun i : Nat => ⟨tab [(0, .ro 6 (rowsGr p)), (3, .ro 1 (rowsII next)), (4, .sl 0 1 0 i i), (5, .int .i64 i)], [some ⟨1, rowsB ((roundL next).take i)⟩], [0, 1, 2, 3, 4]⟩) (fun i => i ≤ p.length) (fun i => p.length - i) 0 (Imp.gen ⟨⟨_, rfl, .refl _⟩, ⟨_, rfl, .refl _⟩, ⟨_, rfl, .virt 0 1 0⟩, ⟨_, rfl, .refl _⟩, trivial⟩ ⟨rfl, trivial⟩ (by simp)) (by simp) ?_
  rintro i hi
  have htk := fun h => take_succ (roundL next) false (i := i) h
  have hrg := fun h => roundL_getD next i h
  generalize hco : (roundL next).take i = co at *
  have hcol : co.length = i := by rw [← hco, List.length_take]; omega
  refine wpC.soundL (cs := [(6, [], 2)]) follows (by kernel_rfl) ?_
  repeat' first | (refine Ad.introL (by first | omega | (unfold inI; omega)) ?_) | (refine ifQ_decL (fun _ => ?_) (fun _ => ?_)) | (simp -implicitDefEqProofs only [z1, z2, z3, z4, z5, z6, z7, z8, z9, z10, z11, z12, z13, z14, ↓z15, ↓z16, ↓z17, ↓z18, ↓z19, ↓z20, ↓z21, ↓z22, ↓z23, ↓z24, ↓z25, z26, z27, z28, reduceIte, Nat.reduceEqDiff, Nat.reduceSub, Nat.reduceAdd, z29, z30, z31, z32, alN, isAl, z33, z34, z35, z36, z37, z38, z39, z40, cwGet, z41, z42, z43, z44, z45, z46, z47, z48, z49, z50, z51, z52, z53, z54, z55, z56, z57, z58, z59, z60, z61, z62, z63, z64, z65, z66, z67, z68, z69, z70, z71, z72, z73, z74, z75, z76, z77, z78, z79, z80, z81, z82, z83, z84, z85, z86, z87, z88, z89, z90, z91, z92, z93, z94, z95, z96, z97, z98, z99, z100, z101, z102, z103, z104, z105, z106, z107, z108, z109, z110, z111, ↓z112, z113, z114, z115, z116, z117, z118, z119, z120, z121, z122, z123, z124, z125, z126, z127, z128, z129, z130, z131, z132, z133, z134, z135, z136, z137, z138, z139, z140, z141, z142, z143, z144, z145, Nat.reduceBEq, z146, z147, z148, z149, z150, z151, z152, z153, z154, z155, z156, z157, z158, spl, z159, partsL, chunk, z160, z161, z162, z163, z164, z165, z166, Nat.reduceLT, Nat.reduceLeDiff, Nat.reduceMul, z167, z168, z169, z170, z171, z172, z173, z174, z175, z176, z177, z178, z179, z180, z181, z182, z183, z184, z185, z186, z187, z188, z189, z190, z191, z192, z193, z194, z195, z196, z197, z198, z199, z200, z201, z202, z203, z204, z205, z206, z207, z208, z209, z210, z211, z212, z213, z214, z215, z216, z217, z218, z219, z220, z221, z222, z223, z224, z225, z226, z227, z228, z229, z230, z231, z232, z233, z234, z235, z236, z237, z238, z239, z240, z241, z242, z243, z244, z245, z246, z247, z248, alGet, z249, z250, z251, z252, z253, z254, z255, z256, z257, z258, z259, z260, z261, ↓z262, z263, z264, z265, z266, z267, z268, z269, z270, z271, z272, z273, z274, z275, z276, z277, z278, Nat.reduceBNe, z279, z280, z281, z282, z283, z284, z285, z286, z287, z288, z289, z290, z291, z292, z293, z294, z295, z296, z297, z298, z299, z300, z301, z302, z303, z304, z305, z306, z307, z308, z309, z310, z311, z312, z313, z314, z315, z316, z317, z318, z319, z320, insC, blockC, arrC, graphC, ix22, ix29, ix33, ix35, ix40, ix47, ix53, ix57, ld3, ld4, ld22, ld33, ld35, ld40, ld42, ld47, ld57, ld64, ld65, ld69, sz3, sz4, sz22, sz35, sz42, sz47, sz57, sz64, sz69, fl42_5, fl49_0, fl49_1, fl49_2, fl49_3, fl49_4, fl49_5, fl49_6, fl64_0, fl69_0, fl69_5, fl73_0, fl73_1, zr3, zr42, zr64, zr69, el22, el29, el33, el35, el40, el47, el53, el57, bl42, fp42_0, fp42_1, fp42_2, fp42_3, fp42_4, fp42_5, bl49, zr49, fp49_0, fp49_1, fp49_2, fp49_3, fp49_4, bl64, bl69, fp69_0, fp69_1, fp69_2, fp69_3, fp69_4, fp69_5, bl73, zr73, fp73_0, fp73_1, underlying22, underlying29, underlying33, underlying35, underlying40, underlying47, underlying53, underlying57]) | (refine ifQ.introL (fun _ => ?_) (fun _ => ?_))
  · refine PureQ.callL (reachedP G next i hval (by omega) (by omega) hcl) ?_
    have hr1 := reachL_length next i
    have hr2 := reachL_getD next i i (by omega)
    repeat' first | (refine Ad.introL (by first | omega | (unfold inI; omega)) ?_) | (refine ifQ_decL (fun _ => ?_) (fun _ => ?_)) | (simp -implicitDefEqProofs only [z1, z2, z3, z4, z5, z6, z7, z8, z9, z10, z11, z12, z13, z14, ↓z15, ↓z16, ↓z17, ↓z18, ↓z19, ↓z20, ↓z21, ↓z22, ↓z23, ↓z24, ↓z25, z26, z27, z28, reduceIte, Nat.reduceEqDiff, Nat.reduceSub, Nat.reduceAdd, z29, z30, z31, z32, alN, isAl, z33, z34, z35, z36, z37, z38, z39, z40, cwGet, z41, z42, z43, z44, z45, z46, z47, z48, z49, z50, z51, z52, z53, z54, z55, z56, z57, z58, z59, z60, z61, z62, z63, z64, z65, z66, z67, z68, z69, z70, z71, z72, z73, z74, z75, z76, z77, z78, z79, z80, z81, z82, z83, z84, z85, z86, z87, z88, z89, z90, z91, z92, z93, z94, z95, z96, z97, z98, z99, z100, z101, z102, z103, z104, z105, z106, z107, z108, z109, z110, z111, ↓z112, z113, z114, z115, z116, z117, z118, z119, z120, z121, z122, z123, z124, z125, z126, z127, z128, z129, z130, z131, z132, z133, z134, z135, z136, z137, z138, z139, z140, z141, z142, z143, z144, z145, Nat.reduceBEq, z146, z147, z148, z149, z150, z151, z152, z153, z154, z155, z156, z157, z158, spl, z159, partsL, chunk, z160, z161, z162, z163, z164, z165, z166, Nat.reduceLT, Nat.reduceLeDiff, Nat.reduceMul, z167, z168, z169, z170, z171, z172, z173, z174, z175, z176, z177, z178, z179, z180, z181, z182, z183, z184, z185, z186, z187, z188, z189, z190, z191, z192, z193, z194, z195, z196, z197, z198, z199, z200, z201, z202, z203, z204, z205, z206, z207, z208, z209, z210, z211, z212, z213, z214, z215, z216, z217, z218, z219, z220, z221, z222, z223, z224, z225, z226, z227, z228, z229, z230, z231, z232, z233, z234, z235, z236, z237, z238, z239, z240, z241, z242, z243, z244, z245, z246, z247, z248, alGet, z249, z250, z251, z252, z253, z254, z255, z256, z257, z258, z259, z260, z261, ↓z262, z263, z264, z265, z266, z267, z268, z269, z270, z271, z272, z273, z274, z275, z276, z277, z278, Nat.reduceBNe, z279, z280, z281, z282, z283, z284, z285, z286, z287, z288, z289, z290, z291, z292, z293, z294, z295, z296, z297, z298, z299, z300, z301, z302, z303, z304, z305, z306, z307, z308, z309, z310, z311, z312, z313, z314, z315, z316, z317, z318, z319, z320, insC, blockC, arrC, graphC, ix22, ix29, ix33, ix35, ix40, ix47, ix53, ix57, ld3, ld4, ld22, ld33, ld35, ld40, ld42, ld47, ld57, ld64, ld65, ld69, sz3, sz4, sz22, sz35, sz42, sz47, sz57, sz64, sz69, fl42_5, fl49_0, fl49_1, fl49_2, fl49_3, fl49_4, fl49_5, fl49_6, fl64_0, fl69_0, fl69_5, fl73_0, fl73_1, zr3, zr42, zr64, zr69, el22, el29, el33, el35, el40, el47, el53, el57, bl42, fp42_0, fp42_1, fp42_2, fp42_3, fp42_4, fp42_5, bl49, zr49, fp49_0, fp49_1, fp49_2, fp49_3, fp49_4, bl64, bl69, fp69_0, fp69_1, fp69_2, fp69_3, fp69_4, fp69_5, bl73, zr73, fp73_0, fp73_1, underlying22, underlying29, underlying33, underlying35, underlying40, underlying47, underlying53, underlying57, hr1, hr2, hcol]) | (refine ifQ.introL (fun _ => ?_) (fun _ => ?_))
    exact ⟨i + 1, by omega, by omega, Imp.cutF (X := [_, _]) ⟨⟨_, rfl, .refl _⟩, ⟨_, rfl, .refl _⟩, ⟨_, rfl, .refl _⟩, ⟨_, rfl, .refl _⟩, trivial⟩ ⟨.rows (by rw [htk (by omega), hrg (by omega), List.take_of_length_le (by omega)]), .refl _, .refl _, trivial⟩ (by simp [refs, liveB]) ⟨rowsB_frz _, trivial⟩ (by simp) (by simp; omega)⟩
  · obtain rfl : i = p.length := by omega
    rw [List.take_of_length_le (by omega)] at hco
    rw [← hco]
    exact View.own rfl (by rw [rowsB_length]; omega) (rowsB_frz _)
end Go.Aw
