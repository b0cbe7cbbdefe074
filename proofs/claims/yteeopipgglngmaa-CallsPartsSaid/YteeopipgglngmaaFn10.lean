/- For the proofs: the circles of calls. -/
import Derived.Test.YteeopipgglngmaaFn9
set_option linter.all false
set_option linter.unusedSimpArgs false
set_option linter.unusedVariables false
set_option maxRecDepth 100000
namespace Go.Aw
open Go Go.Proofs.Try Go.Tar

theorem called_valid (p : List Graph) : validB (calledF p) = true := by
  rw [validB_iff]
  intro l hl k hk
  simp only [calledF, List.mem_map] at hl
  obtain ⟨g, hg, rfl⟩ := hl
  have h1 := ((canonI_spec (callsG p.length g)).2 k).1 hk
  simp only [callsG, List.mem_flatMap, callsB] at h1
  obtain ⟨b, _, x, _, hx⟩ := h1
  unfold refsIn at hx
  split at hx
  · rename_i h
    simp at hx
    subst hx
    simp only [okK, calledF, List.length_map]
    exact h.2
  · simp at hx
theorem called_length (p : List Graph) : (calledF p).length = p.length := by simp [calledF]
theorem parts_mem {next : List (List Int)} (h : validB next = true) : ∀ l ∈ partsLL next, ∀ v ∈ l, okK next.length v := by
  intro l hl v hv
  simp only [partsLL, castLL, List.mem_map] at hl
  obtain ⟨l', hl', rfl⟩ := hl
  simp only [castL, List.mem_map] at hv
  obtain ⟨n, hn, rfl⟩ := hv
  have := (partsF_ok sorts_canon (netOf_rng h)).2 n (List.mem_flatten.2 ⟨l', hl', hn⟩)
  have e : (netOf next).length = next.length := by simp [netOf]
  unfold okK
  omega
theorem partsLL_length {next : List (List Int)} (h : validB next = true) : (partsLL next).length ≤ next.length ∧ ∀ l ∈ partsLL next, l.length ≤ next.length := by
  have e : (netOf next).length = next.length := by simp [netOf]
  obtain ⟨h1, h2⟩ := partsF_ok sorts_canon (netOf_rng h)
  have h3 := nodup_bound h1 h2
  have h4 := flat_len (upto_inv sorts_canon (netOf_rng h) (netOf next).length (Nat.le_refl _)).1.ne
  have h5 : (partsF canonN (netOf next)).length ≤ (partsF canonN (netOf next)).flatten.length := h4
  refine ⟨by rw [partsLL, castLL_length]; omega, fun l hl => ?_⟩
  simp only [partsLL, castLL, List.mem_map] at hl
  obtain ⟨l', hl', rfl⟩ := hl
  rw [castL_length]
  have : l'.length ≤ (partsF canonN (netOf next)).flatten.length := by
    have := (List.sublist_flatten_of_mem hl').length_le
    exact this
  omega

def rv (next : List (List Int)) (l : List Int) (i : Int) : Bool := decide (1 < l.length) || (next.getD i.toNat []).contains i
def rOne (next : List (List Int)) (out : List Bool) (l : List Int) : List Bool := l.foldl (fun o i => o.set i.toNat (rv next l i)) out
def roundF (p : List Graph) : List Bool := (partsLL (calledF p)).foldl (rOne (calledF p)) (List.replicate p.length false)
theorem rIn_length (next : List (List Int)) (l l' : List Int) (out : List Bool) : (l'.foldl (fun o i => o.set i.toNat (rv next l i)) out).length = out.length := by
  induction l' generalizing out with
  | nil => rfl
  | cons a l' ih => rw [List.foldl_cons, ih, List.length_set]
theorem rOut_length (next : List (List Int)) (ps : List (List Int)) (out : List Bool) : (ps.foldl (rOne next) out).length = out.length := by
  induction ps generalizing out with
  | nil => rfl
  | cons a ps ih => rw [List.foldl_cons, ih, rOne, rIn_length]
theorem foldl_succ {α β : Type} (f : β → α → β) (l : List α) (d : α) (b : β) {i : Nat} (h : i < l.length) : (l.take (i + 1)).foldl f b = f ((l.take i).foldl f b) (l.getD i d) := by
  rw [take_succ l d h, List.foldl_append]; rfl

set_option maxHeartbeats 8000000 in
theorem roundP (G : Glob) (p : List Graph) (hn : p.length ≤ 1000000) (hw : ∀ g ∈ p, okG g) (hc : ∀ g ∈ p, (callsG p.length g).length ≤ 1000000) : PCall prog G 17 [.ro 6 (rowsGr p)] (.ro 1 (rowsB (roundF p))) := by
  have hval := called_valid p
  have hlen := called_length p
  have hpm := parts_mem hval
  obtain ⟨hpl, hpl2⟩ := partsLL_length hval
  have hcl : ∀ l ∈ calledF p, l.length ≤ 17592186044416 := fun l hl => by
    simp only [calledF, List.mem_map] at hl
    obtain ⟨g, hg, rfl⟩ := hl
    have := canon_length (callsG p.length g)
    have := hc g hg
    omega
  refine PCall.intro func17 (by kernel_rfl) rfl (by rw [ntmps17]; simp) ?_
  rw [ntmps17, results17]
  refine wpC.soundL (cs := [(1, [], 1)]) follows (by kernel_rfl) ?_
  repeat' first | (refine Ad.introL (by first | omega | (unfold inI; omega)) ?_) | (refine ifQ_decL (fun _ => ?_) (fun _ => ?_)) | (simp -implicitDefEqProofs only [z1, z2, z3, z4, z5, z6, z7, z8, z9, z10, z11, z12, z13, z14, ↓z15, ↓z16, ↓z17, ↓z18, ↓z19, ↓z20, ↓z21, ↓z22, ↓z23, ↓z24, ↓z25, z26, z27, z28, reduceIte, Nat.reduceEqDiff, Nat.reduceSub, Nat.reduceAdd, z29, z30, z31, z32, alN, isAl, z33, z34, z35, z36, z37, z38, z39, z40, cwGet, z41, z42, z43, z44, z45, z46, z47, z48, z49, z50, z51, z52, z53, z54, z55, z56, z57, z58, z59, z60, z61, z62, z63, z64, z65, z66, z67, z68, z69, z70, z71, z72, z73, z74, z75, z76, z77, z78, z79, z80, z81, z82, z83, z84, z85, z86, z87, z88, z89, z90, z91, z92, z93, z94, z95, z96, z97, z98, z99, z100, z101, z102, z103, z104, z105, z106, z107, z108, z109, z110, z111, ↓z112, z113, z114, z115, z116, z117, z118, z119, z120, z121, z122, z123, z124, z125, z126, z127, z128, z129, z130, z131, z132, z133, z134, z135, z136, z137, z138, z139, z140, z141, z142, z143, z144, z145, Nat.reduceBEq, z146, z147, z148, z149, z150, z151, z152, z153, z154, z155, z156, z157, z158, spl, z159, partsL, chunk, z160, z161, z162, z163, z164, z165, z166, Nat.reduceLT, Nat.reduceLeDiff, Nat.reduceMul, z167, z168, z169, z170, z171, z172, z173, z174, z175, z176, z177, z178, z179, z180, z181, z182, z183, z184, z185, z186, z187, z188, z189, z190, z191, z192, z193, z194, z195, z196, z197, z198, z199, z200, z201, z202, z203, z204, z205, z206, z207, z208, z209, z210, z211, z212, z213, z214, z215, z216, z217, z218, z219, z220, z221, z222, z223, z224, z225, z226, z227, z228, z229, z230, z231, z232, z233, z234, z235, z236, z237, z238, z239, z240, z241, z242, z243, z244, z245, z246, z247, z248, alGet, z249, z250, z251, z252, z253, z254, z255, z256, z257, z258, z259, z260, z261, ↓z262, z263, z264, z265, z266, z267, z268, z269, z270, z271, z272, z273, z274, z275, z276, z277, z278, Nat.reduceBNe, z279, z280, z281, z282, z283, z284, z285, z286, z287, z288, z289, z290, z291, z292, z293, z294, z295, z296, z297, z298, z299, z300, z301, z302, z303, z304, z305, z306, z307, z308, z309, z310, z311, z312, z313, z314, z315, z316, z317, z318, z319, z320, insC, blockC, arrC, graphC, ix22, ix29, ix33, ix35, ix40, ix47, ix53, ix57, ld3, ld4, ld22, ld33, ld35, ld40, ld42, ld47, ld57, ld64, ld65, ld69, sz3, sz4, sz22, sz35, sz42, sz47, sz57, sz64, sz69, fl42_5, fl49_0, fl49_1, fl49_2, fl49_3, fl49_4, fl49_5, fl49_6, fl64_0, fl69_0, fl69_5, fl73_0, fl73_1, zr3, zr42, zr64, zr69, el22, el29, el33, el35, el40, el47, el53, el57, bl42, fp42_0, fp42_1, fp42_2, fp42_3, fp42_4, fp42_5, bl49, zr49, fp49_0, fp49_1, fp49_2, fp49_3, fp49_4, bl64, bl69, fp69_0, fp69_1, fp69_2, fp69_3, fp69_4, fp69_5, bl73, zr73, fp73_0, fp73_1, underlying22, underlying29, underlying33, underlying35, underlying40, underlying47, underlying53, underlying57]) | (refine ifQ.introL (fun _ => ?_) (fun _ => ?_))
  refine PureQ.callL (calledP G p hn hw hc) ?_
  repeat' first | (refine Ad.introL (by first | omega | (unfold inI; omega)) ?_) | (refine ifQ_decL (fun _ => ?_) (fun _ => ?_)) | (simp -implicitDefEqProofs only [z1, z2, z3, z4, z5, z6, z7, z8, z9, z10, z11, z12, z13, z14, ↓z15, ↓z16, ↓z17, ↓z18, ↓z19, ↓z20, ↓z21, ↓z22, ↓z23, ↓z24, ↓z25, z26, z27, z28, reduceIte, Nat.reduceEqDiff, Nat.reduceSub, Nat.reduceAdd, z29, z30, z31, z32, alN, isAl, z33, z34, z35, z36, z37, z38, z39, z40, cwGet, z41, z42, z43, z44, z45, z46, z47, z48, z49, z50, z51, z52, z53, z54, z55, z56, z57, z58, z59, z60, z61, z62, z63, z64, z65, z66, z67, z68, z69, z70, z71, z72, z73, z74, z75, z76, z77, z78, z79, z80, z81, z82, z83, z84, z85, z86, z87, z88, z89, z90, z91, z92, z93, z94, z95, z96, z97, z98, z99, z100, z101, z102, z103, z104, z105, z106, z107, z108, z109, z110, z111, ↓z112, z113, z114, z115, z116, z117, z118, z119, z120, z121, z122, z123, z124, z125, z126, z127, z128, z129, z130, z131, z132, z133, z134, z135, z136, z137, z138, z139, z140, z141, z142, z143, z144, z145, Nat.reduceBEq, z146, z147, z148, z149, z150, z151, z152, z153, z154, z155, z156, z157, z158, spl, z159, partsL, chunk, z160, z161, z162, z163, z164, z165, z166, Nat.reduceLT, Nat.reduceLeDiff, Nat.reduceMul, z167, z168, z169, z170, z171, z172, z173, z174, z175, z176, z177, z178, z179, z180, z181, z182, z183, z184, z185, z186, z187, z188, z189, z190, z191, z192, z193, z194, z195, z196, z197, z198, z199, z200, z201, z202, z203, z204, z205, z206, z207, z208, z209, z210, z211, z212, z213, z214, z215, z216, z217, z218, z219, z220, z221, z222, z223, z224, z225, z226, z227, z228, z229, z230, z231, z232, z233, z234, z235, z236, z237, z238, z239, z240, z241, z242, z243, z244, z245, z246, z247, z248, alGet, z249, z250, z251, z252, z253, z254, z255, z256, z257, z258, z259, z260, z261, ↓z262, z263, z264, z265, z266, z267, z268, z269, z270, z271, z272, z273, z274, z275, z276, z277, z278, Nat.reduceBNe, z279, z280, z281, z282, z283, z284, z285, z286, z287, z288, z289, z290, z291, z292, z293, z294, z295, z296, z297, z298, z299, z300, z301, z302, z303, z304, z305, z306, z307, z308, z309, z310, z311, z312, z313, z314, z315, z316, z317, z318, z319, z320, insC, blockC, arrC, graphC, ix22, ix29, ix33, ix35, ix40, ix47, ix53, ix57, ld3, ld4, ld22, ld33, ld35, ld40, ld42, ld47, ld57, ld64, ld65, ld69, sz3, sz4, sz22, sz35, sz42, sz47, sz57, sz64, sz69, fl42_5, fl49_0, fl49_1, fl49_2, fl49_3, fl49_4, fl49_5, fl49_6, fl64_0, fl69_0, fl69_5, fl73_0, fl73_1, zr3, zr42, zr64, zr69, el22, el29, el33, el35, el40, el47, el53, el57, bl42, fp42_0, fp42_1, fp42_2, fp42_3, fp42_4, fp42_5, bl49, zr49, fp49_0, fp49_1, fp49_2, fp49_3, fp49_4, bl64, bl69, fp69_0, fp69_1, fp69_2, fp69_3, fp69_4, fp69_5, bl73, zr73, fp73_0, fp73_1, underlying22, underlying29, underlying33, underlying35, underlying40, underlying47, underlying53, underlying57]) | (refine ifQ.introL (fun _ => ?_) (fun _ => ?_))
  refine PureQ.callL (partsP G (calledF p) (by omega) hcl) ?_
  have hpr : partsR (calledF p) = .tup [.ro 1 (rowsII (partsLL (calledF p))), .int .i64 0] := by rw [partsR, if_pos hval]
  rw [hpr]
  generalize hR : roundF p = R
  unfold roundF at hR
  generalize calledF p = next at *
  generalize partsLL next = parts at *
  repeat' first | (refine Ad.introL (by first | omega | (unfold inI; omega)) ?_) | (refine ifQ_decL (fun _ => ?_) (fun _ => ?_)) | (simp -implicitDefEqProofs only [z1, z2, z3, z4, z5, z6, z7, z8, z9, z10, z11, z12, z13, z14, ↓z15, ↓z16, ↓z17, ↓z18, ↓z19, ↓z20, ↓z21, ↓z22, ↓z23, ↓z24, ↓z25, z26, z27, z28, reduceIte, Nat.reduceEqDiff, Nat.reduceSub, Nat.reduceAdd, z29, z30, z31, z32, alN, isAl, z33, z34, z35, z36, z37, z38, z39, z40, cwGet, z41, z42, z43, z44, z45, z46, z47, z48, z49, z50, z51, z52, z53, z54, z55, z56, z57, z58, z59, z60, z61, z62, z63, z64, z65, z66, z67, z68, z69, z70, z71, z72, z73, z74, z75, z76, z77, z78, z79, z80, z81, z82, z83, z84, z85, z86, z87, z88, z89, z90, z91, z92, z93, z94, z95, z96, z97, z98, z99, z100, z101, z102, z103, z104, z105, z106, z107, z108, z109, z110, z111, ↓z112, z113, z114, z115, z116, z117, z118, z119, z120, z121, z122, z123, z124, z125, z126, z127, z128, z129, z130, z131, z132, z133, z134, z135, z136, z137, z138, z139, z140, z141, z142, z143, z144, z145, Nat.reduceBEq, z146, z147, z148, z149, z150, z151, z152, z153, z154, z155, z156, z157, z158, spl, z159, partsL, chunk, z160, z161, z162, z163, z164, z165, z166, Nat.reduceLT, Nat.reduceLeDiff, Nat.reduceMul, z167, z168, z169, z170, z171, z172, z173, z174, z175, z176, z177, z178, z179, z180, z181, z182, z183, z184, z185, z186, z187, z188, z189, z190, z191, z192, z193, z194, z195, z196, z197, z198, z199, z200, z201, z202, z203, z204, z205, z206, z207, z208, z209, z210, z211, z212, z213, z214, z215, z216, z217, z218, z219, z220, z221, z222, z223, z224, z225, z226, z227, z228, z229, z230, z231, z232, z233, z234, z235, z236, z237, z238, z239, z240, z241, z242, z243, z244, z245, z246, z247, z248, alGet, z249, z250, z251, z252, z253, z254, z255, z256, z257, z258, z259, z260, z261, ↓z262, z263, z264, z265, z266, z267, z268, z269, z270, z271, z272, z273, z274, z275, z276, z277, z278, Nat.reduceBNe, z279, z280, z281, z282, z283, z284, z285, z286, z287, z288, z289, z290, z291, z292, z293, z294, z295, z296, z297, z298, z299, z300, z301, z302, z303, z304, z305, z306, z307, z308, z309, z310, z311, z312, z313, z314, z315, z316, z317, z318, z319, z320, insC, blockC, arrC, graphC, ix22, ix29, ix33, ix35, ix40, ix47, ix53, ix57, ld3, ld4, ld22, ld33, ld35, ld40, ld42, ld47, ld57, ld64, ld65, ld69, sz3, sz4, sz22, sz35, sz42, sz47, sz57, sz64, sz69, fl42_5, fl49_0, fl49_1, fl49_2, fl49_3, fl49_4, fl49_5, fl49_6, fl64_0, fl69_0, fl69_5, fl73_0, fl73_1, zr3, zr42, zr64, zr69, el22, el29, el33, el35, el40, el47, el53, el57, bl42, fp42_0, fp42_1, fp42_2, fp42_3, fp42_4, fp42_5, bl49, zr49, fp49_0, fp49_1, fp49_2, fp49_3, fp49_4, bl64, bl69, fp69_0, fp69_1, fp69_2, fp69_3, fp69_4, fp69_5, bl73, zr73, fp73_0, fp73_1, underlying22, underlying29, underlying33, underlying35, underlying40, underlying47, underlying53, underlying57]) | (refine ifQ.introL (fun _ => ?_) (fun _ => ?_))
  refine AWP.loop (fun i : Nat => ⟨tab [(3, .sl 0 1 0 p.length p.length), (4, .ro 1 (rowsII next)), (21, .ro 1 (rowsII parts)), (22, .int .i64 parts.length), (23, .int .i64 i)], [some ⟨1, rowsB ((parts.take i).foldl (rOne next) (List.replicate p.length false))⟩], []⟩) (fun i => i ≤ parts.length) (fun i => parts.length - i) 0 (Imp.gen ⟨⟨_, rfl, .refl _⟩, ⟨_, rfl, .refl _⟩, ⟨_, rfl, .refl _⟩, ⟨_, rfl, .refl _⟩, ⟨_, rfl, .refl _⟩, trivial⟩ ⟨.rows (by simp [rowsB_rep]), trivial⟩ (by simp)) (by simp) ?_
  rintro i hi
  have hbase := rOut_length next (parts.take i) (List.replicate p.length false)
  rw [List.length_replicate] at hbase
  have hos := fun h => foldl_succ (rOne next) parts [] (List.replicate p.length false) (i := i) h
  generalize hb : (parts.take i).foldl (rOne next) (List.replicate p.length false) = base at *
  refine wpC.soundL (cs := [(1, [], 1)]) follows (by kernel_rfl) ?_
  repeat' first | (refine Ad.introL (by first | omega | (unfold inI; omega)) ?_) | (refine ifQ_decL (fun _ => ?_) (fun _ => ?_)) | (simp -implicitDefEqProofs only [z1, z2, z3, z4, z5, z6, z7, z8, z9, z10, z11, z12, z13, z14, ↓z15, ↓z16, ↓z17, ↓z18, ↓z19, ↓z20, ↓z21, ↓z22, ↓z23, ↓z24, ↓z25, z26, z27, z28, reduceIte, Nat.reduceEqDiff, Nat.reduceSub, Nat.reduceAdd, z29, z30, z31, z32, alN, isAl, z33, z34, z35, z36, z37, z38, z39, z40, cwGet, z41, z42, z43, z44, z45, z46, z47, z48, z49, z50, z51, z52, z53, z54, z55, z56, z57, z58, z59, z60, z61, z62, z63, z64, z65, z66, z67, z68, z69, z70, z71, z72, z73, z74, z75, z76, z77, z78, z79, z80, z81, z82, z83, z84, z85, z86, z87, z88, z89, z90, z91, z92, z93, z94, z95, z96, z97, z98, z99, z100, z101, z102, z103, z104, z105, z106, z107, z108, z109, z110, z111, ↓z112, z113, z114, z115, z116, z117, z118, z119, z120, z121, z122, z123, z124, z125, z126, z127, z128, z129, z130, z131, z132, z133, z134, z135, z136, z137, z138, z139, z140, z141, z142, z143, z144, z145, Nat.reduceBEq, z146, z147, z148, z149, z150, z151, z152, z153, z154, z155, z156, z157, z158, spl, z159, partsL, chunk, z160, z161, z162, z163, z164, z165, z166, Nat.reduceLT, Nat.reduceLeDiff, Nat.reduceMul, z167, z168, z169, z170, z171, z172, z173, z174, z175, z176, z177, z178, z179, z180, z181, z182, z183, z184, z185, z186, z187, z188, z189, z190, z191, z192, z193, z194, z195, z196, z197, z198, z199, z200, z201, z202, z203, z204, z205, z206, z207, z208, z209, z210, z211, z212, z213, z214, z215, z216, z217, z218, z219, z220, z221, z222, z223, z224, z225, z226, z227, z228, z229, z230, z231, z232, z233, z234, z235, z236, z237, z238, z239, z240, z241, z242, z243, z244, z245, z246, z247, z248, alGet, z249, z250, z251, z252, z253, z254, z255, z256, z257, z258, z259, z260, z261, ↓z262, z263, z264, z265, z266, z267, z268, z269, z270, z271, z272, z273, z274, z275, z276, z277, z278, Nat.reduceBNe, z279, z280, z281, z282, z283, z284, z285, z286, z287, z288, z289, z290, z291, z292, z293, z294, z295, z296, z297, z298, z299, z300, z301, z302, z303, z304, z305, z306, z307, z308, z309, z310, z311, z312, z313, z314, z315, z316, z317, z318, z319, z320, insC, blockC, arrC, graphC, ix22, ix29, ix33, ix35, ix40, ix47, ix53, ix57, ld3, ld4, ld22, ld33, ld35, ld40, ld42, ld47, ld57, ld64, ld65, ld69, sz3, sz4, sz22, sz35, sz42, sz47, sz57, sz64, sz69, fl42_5, fl49_0, fl49_1, fl49_2, fl49_3, fl49_4, fl49_5, fl49_6, fl64_0, fl69_0, fl69_5, fl73_0, fl73_1, zr3, zr42, zr64, zr69, el22, el29, el33, el35, el40, el47, el53, el57, bl42, fp42_0, fp42_1, fp42_2, fp42_3, fp42_4, fp42_5, bl49, zr49, fp49_0, fp49_1, fp49_2, fp49_3, fp49_4, bl64, bl69, fp69_0, fp69_1, fp69_2, fp69_3, fp69_4, fp69_5, bl73, zr73, fp73_0, fp73_1, underlying22, underlying29, underlying33, underlying35, underlying40, underlying47, underlying53, underlying57]) | (refine ifQ.introL (fun _ => ?_) (fun _ => ?_))
  · have hlm : parts.getD i [] ∈ parts := getD_mem (by omega)
    have hos := hos (by omega)
    have hll := hpl2 _ hlm
    have hlv := hpm _ hlm
    generalize parts.getD i [] = l at *
    refine AWP.loop (fun j : Nat => ⟨tab [(3, .sl 0 1 0 p.length p.length), (4, .ro 1 (rowsII next)), (8, .ro 1 (rowsI l)), (21, .ro 1 (rowsII parts)), (22, .int .i64 parts.length), (23, .int .i64 i), (27, .ro 1 (rowsI l)), (28, .int .i64 l.length), (29, .int .i64 j)], [some ⟨1, rowsB ((l.take j).foldl (fun o i => o.set i.toNat (rv next l i)) base)⟩], []⟩) (fun j => j ≤ l.length) (fun j => l.length - j) 0 (Imp.gen ⟨⟨_, rfl, .refl _⟩, ⟨_, rfl, .refl _⟩, ⟨_, rfl, .refl _⟩, ⟨_, rfl, .refl _⟩, ⟨_, rfl, .refl _⟩, ⟨_, rfl, .refl _⟩, ⟨_, rfl, .refl _⟩, ⟨_, rfl, .refl _⟩, ⟨_, rfl, .refl _⟩, trivial⟩ (.refl _) (by simp)) (by simp) ?_
    rintro j hj
    have hbl := rIn_length next l (l.take j) base
    have his := fun h => foldl_succ (fun (o : List Bool) (i : Int) => o.set i.toNat (rv next l i)) l 0 base (i := j) h
    generalize hib : (l.take j).foldl (fun (o : List Bool) (i : Int) => o.set i.toNat (rv next l i)) base = cur at *
    have hv : j < l.length → okK next.length (l.getD j 0) := fun h => hlv _ (getD_mem h)
    unfold okK at hv
    refine wpC.soundL (cs := [(1, [], 1)]) follows (by kernel_rfl) ?_
    repeat' first | (refine Ad.introL (by first | omega | (unfold inI; omega)) ?_) | (refine ifQ_decL (fun _ => ?_) (fun _ => ?_)) | (simp -implicitDefEqProofs only [z1, z2, z3, z4, z5, z6, z7, z8, z9, z10, z11, z12, z13, z14, ↓z15, ↓z16, ↓z17, ↓z18, ↓z19, ↓z20, ↓z21, ↓z22, ↓z23, ↓z24, ↓z25, z26, z27, z28, reduceIte, Nat.reduceEqDiff, Nat.reduceSub, Nat.reduceAdd, z29, z30, z31, z32, alN, isAl, z33, z34, z35, z36, z37, z38, z39, z40, cwGet, z41, z42, z43, z44, z45, z46, z47, z48, z49, z50, z51, z52, z53, z54, z55, z56, z57, z58, z59, z60, z61, z62, z63, z64, z65, z66, z67, z68, z69, z70, z71, z72, z73, z74, z75, z76, z77, z78, z79, z80, z81, z82, z83, z84, z85, z86, z87, z88, z89, z90, z91, z92, z93, z94, z95, z96, z97, z98, z99, z100, z101, z102, z103, z104, z105, z106, z107, z108, z109, z110, z111, ↓z112, z113, z114, z115, z116, z117, z118, z119, z120, z121, z122, z123, z124, z125, z126, z127, z128, z129, z130, z131, z132, z133, z134, z135, z136, z137, z138, z139, z140, z141, z142, z143, z144, z145, Nat.reduceBEq, z146, z147, z148, z149, z150, z151, z152, z153, z154, z155, z156, z157, z158, spl, z159, partsL, chunk, z160, z161, z162, z163, z164, z165, z166, Nat.reduceLT, Nat.reduceLeDiff, Nat.reduceMul, z167, z168, z169, z170, z171, z172, z173, z174, z175, z176, z177, z178, z179, z180, z181, z182, z183, z184, z185, z186, z187, z188, z189, z190, z191, z192, z193, z194, z195, z196, z197, z198, z199, z200, z201, z202, z203, z204, z205, z206, z207, z208, z209, z210, z211, z212, z213, z214, z215, z216, z217, z218, z219, z220, z221, z222, z223, z224, z225, z226, z227, z228, z229, z230, z231, z232, z233, z234, z235, z236, z237, z238, z239, z240, z241, z242, z243, z244, z245, z246, z247, z248, alGet, z249, z250, z251, z252, z253, z254, z255, z256, z257, z258, z259, z260, z261, ↓z262, z263, z264, z265, z266, z267, z268, z269, z270, z271, z272, z273, z274, z275, z276, z277, z278, Nat.reduceBNe, z279, z280, z281, z282, z283, z284, z285, z286, z287, z288, z289, z290, z291, z292, z293, z294, z295, z296, z297, z298, z299, z300, z301, z302, z303, z304, z305, z306, z307, z308, z309, z310, z311, z312, z313, z314, z315, z316, z317, z318, z319, z320, insC, blockC, arrC, graphC, ix22, ix29, ix33, ix35, ix40, ix47, ix53, ix57, ld3, ld4, ld22, ld33, ld35, ld40, ld42, ld47, ld57, ld64, ld65, ld69, sz3, sz4, sz22, sz35, sz42, sz47, sz57, sz64, sz69, fl42_5, fl49_0, fl49_1, fl49_2, fl49_3, fl49_4, fl49_5, fl49_6, fl64_0, fl69_0, fl69_5, fl73_0, fl73_1, zr3, zr42, zr64, zr69, el22, el29, el33, el35, el40, el47, el53, el57, bl42, fp42_0, fp42_1, fp42_2, fp42_3, fp42_4, fp42_5, bl49, zr49, fp49_0, fp49_1, fp49_2, fp49_3, fp49_4, bl64, bl69, fp69_0, fp69_1, fp69_2, fp69_3, fp69_4, fp69_5, bl73, zr73, fp73_0, fp73_1, underlying22, underlying29, underlying33, underlying35, underlying40, underlying47, underlying53, underlying57]) | (refine ifQ.introL (fun _ => ?_) (fun _ => ?_))
    · rename_i h1 h2
      exact ⟨j + 1, by omega, by omega, Imp.gen ⟨⟨_, rfl, .refl _⟩, ⟨_, rfl, .refl _⟩, ⟨_, rfl, .refl _⟩, ⟨_, rfl, .refl _⟩, ⟨_, rfl, .refl _⟩, ⟨_, rfl, .refl _⟩, ⟨_, rfl, .refl _⟩, ⟨_, rfl, .refl _⟩, ⟨_, rfl, .refl _⟩, trivial⟩ ⟨.rows (by rw [his (by omega), rv, decide_eq_true (show 1 < l.length by omega)]; rfl), trivial⟩ (by simp)⟩
    · rename_i h1 h2
      refine PureQ.callL (containsP G _ _) ?_
      repeat' first | (refine Ad.introL (by first | omega | (unfold inI; omega)) ?_) | (refine ifQ_decL (fun _ => ?_) (fun _ => ?_)) | (simp -implicitDefEqProofs only [z1, z2, z3, z4, z5, z6, z7, z8, z9, z10, z11, z12, z13, z14, ↓z15, ↓z16, ↓z17, ↓z18, ↓z19, ↓z20, ↓z21, ↓z22, ↓z23, ↓z24, ↓z25, z26, z27, z28, reduceIte, Nat.reduceEqDiff, Nat.reduceSub, Nat.reduceAdd, z29, z30, z31, z32, alN, isAl, z33, z34, z35, z36, z37, z38, z39, z40, cwGet, z41, z42, z43, z44, z45, z46, z47, z48, z49, z50, z51, z52, z53, z54, z55, z56, z57, z58, z59, z60, z61, z62, z63, z64, z65, z66, z67, z68, z69, z70, z71, z72, z73, z74, z75, z76, z77, z78, z79, z80, z81, z82, z83, z84, z85, z86, z87, z88, z89, z90, z91, z92, z93, z94, z95, z96, z97, z98, z99, z100, z101, z102, z103, z104, z105, z106, z107, z108, z109, z110, z111, ↓z112, z113, z114, z115, z116, z117, z118, z119, z120, z121, z122, z123, z124, z125, z126, z127, z128, z129, z130, z131, z132, z133, z134, z135, z136, z137, z138, z139, z140, z141, z142, z143, z144, z145, Nat.reduceBEq, z146, z147, z148, z149, z150, z151, z152, z153, z154, z155, z156, z157, z158, spl, z159, partsL, chunk, z160, z161, z162, z163, z164, z165, z166, Nat.reduceLT, Nat.reduceLeDiff, Nat.reduceMul, z167, z168, z169, z170, z171, z172, z173, z174, z175, z176, z177, z178, z179, z180, z181, z182, z183, z184, z185, z186, z187, z188, z189, z190, z191, z192, z193, z194, z195, z196, z197, z198, z199, z200, z201, z202, z203, z204, z205, z206, z207, z208, z209, z210, z211, z212, z213, z214, z215, z216, z217, z218, z219, z220, z221, z222, z223, z224, z225, z226, z227, z228, z229, z230, z231, z232, z233, z234, z235, z236, z237, z238, z239, z240, z241, z242, z243, z244, z245, z246, z247, z248, alGet, z249, z250, z251, z252, z253, z254, z255, z256, z257, z258, z259, z260, z261, ↓z262, z263, z264, z265, z266, z267, z268, z269, z270, z271, z272, z273, z274, z275, z276, z277, z278, Nat.reduceBNe, z279, z280, z281, z282, z283, z284, z285, z286, z287, z288, z289, z290, z291, z292, z293, z294, z295, z296, z297, z298, z299, z300, z301, z302, z303, z304, z305, z306, z307, z308, z309, z310, z311, z312, z313, z314, z315, z316, z317, z318, z319, z320, insC, blockC, arrC, graphC, ix22, ix29, ix33, ix35, ix40, ix47, ix53, ix57, ld3, ld4, ld22, ld33, ld35, ld40, ld42, ld47, ld57, ld64, ld65, ld69, sz3, sz4, sz22, sz35, sz42, sz47, sz57, sz64, sz69, fl42_5, fl49_0, fl49_1, fl49_2, fl49_3, fl49_4, fl49_5, fl49_6, fl64_0, fl69_0, fl69_5, fl73_0, fl73_1, zr3, zr42, zr64, zr69, el22, el29, el33, el35, el40, el47, el53, el57, bl42, fp42_0, fp42_1, fp42_2, fp42_3, fp42_4, fp42_5, bl49, zr49, fp49_0, fp49_1, fp49_2, fp49_3, fp49_4, bl64, bl69, fp69_0, fp69_1, fp69_2, fp69_3, fp69_4, fp69_5, bl73, zr73, fp73_0, fp73_1, underlying22, underlying29, underlying33, underlying35, underlying40, underlying47, underlying53, underlying57]) | (refine ifQ.introL (fun _ => ?_) (fun _ => ?_))
      exact ⟨j + 1, by omega, by omega, Imp.gen ⟨⟨_, rfl, .refl _⟩, ⟨_, rfl, .refl _⟩, ⟨_, rfl, .refl _⟩, ⟨_, rfl, .refl _⟩, ⟨_, rfl, .refl _⟩, ⟨_, rfl, .refl _⟩, ⟨_, rfl, .refl _⟩, ⟨_, rfl, .refl _⟩, ⟨_, rfl, .refl _⟩, trivial⟩ ⟨.rows (by rw [his (by omega), rv, decide_eq_false (show ¬ 1 < l.length by omega)]; rfl), trivial⟩ (by simp)⟩
    · obtain rfl : j = l.length := by omega
      rw [List.take_length] at hib
      subst hib
      exact ⟨i + 1, by omega, by omega, Imp.gen ⟨⟨_, rfl, .refl _⟩, ⟨_, rfl, .refl _⟩, ⟨_, rfl, .refl _⟩, ⟨_, rfl, .refl _⟩, ⟨_, rfl, .refl _⟩, trivial⟩ ⟨.rows (by rw [hos]; rfl), trivial⟩ (by simp)⟩
  · obtain rfl : i = parts.length := by omega
    rw [List.take_length, hR] at hb
    subst hb
    exact View.own rfl (by rw [rowsB_length]; exact hbase) (rowsB_frz _)
end Go.Aw
