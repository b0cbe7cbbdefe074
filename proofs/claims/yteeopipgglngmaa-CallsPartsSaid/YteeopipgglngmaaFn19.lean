/- For the proofs: who calls whom, the plain way. -/
import Derived.Test.YteeopipgglngmaaFn11
import Derived.Test.YteeopipgglngmaaAwFy
set_option linter.all false
set_option linter.unusedSimpArgs false
set_option linter.unusedVariables false
set_option maxRecDepth 100000
namespace Go.Aw
open Go Go.Proofs.Try Go.Tar

def mk (n : Nat) (l : List Int) : List Bool := l.foldl (fun s x => s.set x.toNat true) (List.replicate n false)
theorem mk_length (n : Nat) (l : List Int) : (mk n l).length = n := by
  unfold mk
  have : ∀ (l : List Int) (s : List Bool), (l.foldl (fun s x => s.set x.toNat true) s).length = s.length := fun l => by
    induction l with
    | nil => intro s; rfl
    | cons a l ih => intro s; rw [List.foldl_cons, ih, List.length_set]
  rw [this, List.length_replicate]
theorem mk_snoc (n : Nat) (l : List Int) (x : Int) : mk n (l ++ [x]) = (mk n l).set x.toNat true := by simp [mk]
theorem mk_getD (n : Nat) (v : Nat) (hv : v < n) : ∀ (r : List Int), (∀ x ∈ r, 0 ≤ x) → ((mk n r.reverse).getD v false = true ↔ (v : Int) ∈ r)
  | [], _ => by
    simp [mk, List.getD_eq_getElem?_getD, List.getElem?_replicate, hv]
  | a :: r, h => by
    have ih := mk_getD n v hv r fun x hx => h x (List.mem_cons_of_mem _ hx)
    have ha := h a (by simp)
    rw [List.reverse_cons, mk_snoc, List.mem_cons, ← ih]
    by_cases e : a.toNat = v
    · rw [List.getD_eq_getElem?_getD, e, List.getElem?_set_self (by rw [mk_length]; exact hv)]
      simp
      left
      omega
    · rw [List.getD_eq_getElem?_getD, List.getElem?_set_ne e, ← List.getD_eq_getElem?_getD]
      constructor
      · exact .inr
      · rintro (h' | h')
        · omega
        · exact h'
theorem mk_has {n v : Nat} (hv : v < n) {l : List Int} (h : ∀ x ∈ l, 0 ≤ x) : (mk n l).getD v false = true ↔ (v : Int) ∈ l := by
  have := mk_getD n v hv l.reverse fun x hx => h x (List.mem_reverse.1 hx)
  rwa [List.reverse_reverse, List.mem_reverse] at this
def upS (s : List Bool) (m : Nat) : List Nat := (List.range m).filter fun v => s.getD v false
theorem upS_succ (s : List Bool) (m : Nat) : upS s (m + 1) = upS s m ++ if s.getD m false then [m] else [] := by
  unfold upS
  rw [List.range_succ, List.filter_append]
  congr 1
  rw [List.filter_cons, List.filter_nil]
theorem upS_len (s : List Bool) (m : Nat) : (upS s m).length ≤ m := by
  have := List.length_filter_le (fun v => s.getD v false) (List.range m)
  rwa [List.length_range] at this
theorem upS_canon {n : Nat} {l : List Int} (h : ∀ x ∈ l, okK n x) : castL (upS (mk n l) n) = canon l := by
  refine ascI_eq ?_ (canonI_spec l).1 fun v => ?_
  · exact List.pairwise_map.2 (((List.pairwise_lt_range (n := n)).filter _).imp fun h => by omega)
  · show _ ↔ v ∈ canonI l
    rw [(canonI_spec l).2, castL, List.mem_map]
    constructor
    · rintro ⟨w, hw, rfl⟩
      rw [upS, List.mem_filter, List.mem_range] at hw
      exact (mk_has hw.1 fun x hx => (h x hx).1).1 hw.2
    · intro hv
      have := h v hv
      unfold okK at this
      refine ⟨v.toNat, ?_, by omega⟩
      rw [upS, List.mem_filter, List.mem_range]
      refine ⟨by omega, (mk_has (by omega) fun x hx => (h x hx).1).2 ?_⟩
      have e : ((v.toNat : Nat) : Int) = v := by omega
      rw [e]; exact hv
theorem calls_ok {n : Nat} {g : Graph} : ∀ x ∈ callsG n g, okK n x := by
  intro x hx
  simp only [callsG, List.mem_flatMap, callsB] at hx
  obtain ⟨b, _, y, _, hx⟩ := hx
  unfold refsIn at hx
  split at hx
  · rename_i h
    simp at hx
    subst hx
    exact ⟨h.2.1, h.2.2⟩
  · simp at hx
theorem refsIn_ok {n : Nat} {l : List Ins} : ∀ x ∈ l.flatMap (refsIn n), okK n x := by
  intro x hx
  simp only [List.mem_flatMap] at hx
  obtain ⟨y, _, hx⟩ := hx
  unfold refsIn at hx
  split at hx
  · rename_i h
    simp at hx
    subst hx
    exact ⟨h.2.1, h.2.2⟩
  · simp at hx

set_option pp.maxSteps 3000
set_option maxHeartbeats 8000000 in
theorem called2P (G : Glob) (p : List Graph) (hn : p.length ≤ 1000000) (hw : ∀ g ∈ p, okG g) : PCall prog G 15 [.ro 6 (rowsGr p)] (.ro 1 (rowsII (calledF p))) := by
  have hcl : (calledF p).length = p.length := by simp [calledF]
  refine PCall.intro func15 (by kernel_rfl) rfl (by rw [ntmps15]; simp) ?_
  rw [ntmps15, results15]
  refine wpC.soundL (cs := [(5, [], 1), (12, [], 1), (20, [], 2), (21, [], 2)]) follows (by kernel_rfl) ?_
  repeat' first | (refine Ad.introL (by first | omega | (unfold inI; omega)) ?_) | (refine ifQ_decL (fun _ => ?_) (fun _ => ?_)) | (simp -implicitDefEqProofs only [z1, z2, z3, z4, z5, z6, z7, z8, z9, z10, z11, z12, z13, z14, ↓z15, ↓z16, ↓z17, ↓z18, ↓z19, ↓z20, ↓z21, ↓z22, ↓z23, ↓z24, ↓z25, z26, z27, z28, reduceIte, Nat.reduceEqDiff, Nat.reduceSub, Nat.reduceAdd, z29, z30, z31, z32, alN, isAl, z33, z34, z35, z36, z37, z38, z39, z40, cwGet, z41, z42, z43, z44, z45, z46, z47, z48, z49, z50, z51, z52, z53, z54, z55, z56, z57, z58, z59, z60, z61, z62, z63, z64, z65, z66, z67, z68, z69, z70, z71, z72, z73, z74, z75, z76, z77, z78, z79, z80, z81, z82, z83, z84, z85, z86, z87, z88, z89, z90, z91, z92, z93, z94, z95, z96, z97, z98, z99, z100, z101, z102, z103, z104, z105, z106, z107, z108, z109, z110, z111, ↓z112, z113, z114, z115, z116, z117, z118, z119, z120, z121, z122, z123, z124, z125, z126, z127, z128, z129, z130, z131, z132, z133, z134, z135, z136, z137, z138, z139, z140, z141, z142, z143, z144, z145, Nat.reduceBEq, z146, z147, z148, z149, z150, z151, z152, z153, z154, z155, z156, z157, z158, spl, z159, partsL, chunk, z160, z161, z162, z163, z164, z165, z166, Nat.reduceLT, Nat.reduceLeDiff, Nat.reduceMul, z167, z168, z169, z170, z171, z172, z173, z174, z175, z176, z177, z178, z179, z180, z181, z182, z183, z184, z185, z186, z187, z188, z189, z190, z191, z192, z193, z194, z195, z196, z197, z198, z199, z200, z201, z202, z203, z204, z205, z206, z207, z208, z209, z210, z211, z212, z213, z214, z215, z216, z217, z218, z219, z220, z221, z222, z223, z224, z225, z226, z227, z228, z229, z230, z231, z232, z233, z234, z235, z236, z237, z238, z239, z240, z241, z242, z243, z244, z245, z246, z247, z248, alGet, z249, z250, z251, z252, z253, z254, z255, z256, z257, z258, z259, z260, z261, ↓z262, z263, z264, z265, z266, z267, z268, z269, z270, z271, z272, z273, z274, z275, z276, z277, z278, Nat.reduceBNe, z279, z280, z281, z282, z283, z284, z285, z286, z287, z288, z289, z290, z291, z292, z293, z294, z295, z296, z297, z298, z299, z300, z301, z302, z303, z304, z305, z306, z307, z308, z309, z310, z311, z312, z313, z314, z315, z316, z317, z318, z319, z320, insC, blockC, arrC, graphC, ix22, ix29, ix33, ix35, ix40, ix47, ix53, ix57, ld3, ld4, ld22, ld33, ld35, ld40, ld42, ld47, ld57, ld64, ld65, ld69, sz3, sz4, sz22, sz35, sz42, sz47, sz57, sz64, sz69, fl42_5, fl49_0, fl49_1, fl49_2, fl49_3, fl49_4, fl49_5, fl49_6, fl64_0, fl69_0, fl69_5, fl73_0, fl73_1, zr3, zr42, zr64, zr69, el22, el29, el33, el35, el40, el47, el53, el57, bl42, fp42_0, fp42_1, fp42_2, fp42_3, fp42_4, fp42_5, bl49, zr49, fp49_0, fp49_1, fp49_2, fp49_3, fp49_4, bl64, bl69, fp69_0, fp69_1, fp69_2, fp69_3, fp69_4, fp69_5, bl73, zr73, fp73_0, fp73_1, underlying22, underlying29, underlying33, underlying35, underlying40, underlying47, underlying53, underlying57]) | (refine ifQ.introL (fun _ => ?_) (fun _ => ?_))
  refine AWP.loop (fun i : Nat => ⟨tab [(0, .ro 6 (rowsGr p)), (3, .sl 0 1 0 i i), (4, .int .i64 i)], [some ⟨1, rowsII ((calledF p).take i)⟩], [0, 1, 2, 3, 4, 5, 6, 7, 8]⟩) (fun i => i ≤ p.length) (fun i => p.length - i) 0 (Imp.gen ⟨⟨_, rfl, .refl _⟩, ⟨_, rfl, .virt 0 1 0⟩, ⟨_, rfl, .refl _⟩, trivial⟩ ⟨rfl, trivial⟩ (by simp)) (by simp) ?_
  rintro i hi
  refine wpC.soundL (cs := [(5, [], 1), (12, [], 1), (20, [], 2), (21, [], 2)]) follows (by kernel_rfl) ?_
  repeat' first | (refine Ad.introL (by first | omega | (unfold inI; omega)) ?_) | (refine ifQ_decL (fun _ => ?_) (fun _ => ?_)) | (simp -implicitDefEqProofs only [z1, z2, z3, z4, z5, z6, z7, z8, z9, z10, z11, z12, z13, z14, ↓z15, ↓z16, ↓z17, ↓z18, ↓z19, ↓z20, ↓z21, ↓z22, ↓z23, ↓z24, ↓z25, z26, z27, z28, reduceIte, Nat.reduceEqDiff, Nat.reduceSub, Nat.reduceAdd, z29, z30, z31, z32, alN, isAl, z33, z34, z35, z36, z37, z38, z39, z40, cwGet, z41, z42, z43, z44, z45, z46, z47, z48, z49, z50, z51, z52, z53, z54, z55, z56, z57, z58, z59, z60, z61, z62, z63, z64, z65, z66, z67, z68, z69, z70, z71, z72, z73, z74, z75, z76, z77, z78, z79, z80, z81, z82, z83, z84, z85, z86, z87, z88, z89, z90, z91, z92, z93, z94, z95, z96, z97, z98, z99, z100, z101, z102, z103, z104, z105, z106, z107, z108, z109, z110, z111, ↓z112, z113, z114, z115, z116, z117, z118, z119, z120, z121, z122, z123, z124, z125, z126, z127, z128, z129, z130, z131, z132, z133, z134, z135, z136, z137, z138, z139, z140, z141, z142, z143, z144, z145, Nat.reduceBEq, z146, z147, z148, z149, z150, z151, z152, z153, z154, z155, z156, z157, z158, spl, z159, partsL, chunk, z160, z161, z162, z163, z164, z165, z166, Nat.reduceLT, Nat.reduceLeDiff, Nat.reduceMul, z167, z168, z169, z170, z171, z172, z173, z174, z175, z176, z177, z178, z179, z180, z181, z182, z183, z184, z185, z186, z187, z188, z189, z190, z191, z192, z193, z194, z195, z196, z197, z198, z199, z200, z201, z202, z203, z204, z205, z206, z207, z208, z209, z210, z211, z212, z213, z214, z215, z216, z217, z218, z219, z220, z221, z222, z223, z224, z225, z226, z227, z228, z229, z230, z231, z232, z233, z234, z235, z236, z237, z238, z239, z240, z241, z242, z243, z244, z245, z246, z247, z248, alGet, z249, z250, z251, z252, z253, z254, z255, z256, z257, z258, z259, z260, z261, ↓z262, z263, z264, z265, z266, z267, z268, z269, z270, z271, z272, z273, z274, z275, z276, z277, z278, Nat.reduceBNe, z279, z280, z281, z282, z283, z284, z285, z286, z287, z288, z289, z290, z291, z292, z293, z294, z295, z296, z297, z298, z299, z300, z301, z302, z303, z304, z305, z306, z307, z308, z309, z310, z311, z312, z313, z314, z315, z316, z317, z318, z319, z320, insC, blockC, arrC, graphC, ix22, ix29, ix33, ix35, ix40, ix47, ix53, ix57, ld3, ld4, ld22, ld33, ld35, ld40, ld42, ld47, ld57, ld64, ld65, ld69, sz3, sz4, sz22, sz35, sz42, sz47, sz57, sz64, sz69, fl42_5, fl49_0, fl49_1, fl49_2, fl49_3, fl49_4, fl49_5, fl49_6, fl64_0, fl69_0, fl69_5, fl73_0, fl73_1, zr3, zr42, zr64, zr69, el22, el29, el33, el35, el40, el47, el53, el57, bl42, fp42_0, fp42_1, fp42_2, fp42_3, fp42_4, fp42_5, bl49, zr49, fp49_0, fp49_1, fp49_2, fp49_3, fp49_4, bl64, bl69, fp69_0, fp69_1, fp69_2, fp69_3, fp69_4, fp69_5, bl73, zr73, fp73_0, fp73_1, underlying22, underlying29, underlying33, underlying35, underlying40, underlying47, underlying53, underlying57]) | (refine ifQ.introL (fun _ => ?_) (fun _ => ?_))
  · have hgi : p.getD i default ∈ p := getD_mem (by omega)
    have hci : (calledF p).getD i [] = canon (callsG p.length (p.getD i default)) := by
      rw [calledF, List.getD_eq_getElem?_getD, List.getElem?_map, List.getElem?_eq_getElem (show i < p.length by omega), List.getD_eq_getElem?_getD, List.getElem?_eq_getElem (show i < p.length by omega)]
      rfl
    have hct : (calledF p).take (i + 1) = (calledF p).take i ++ [(calledF p).getD i []] := take_succ _ _ (by omega)
    rw [hci] at hct
    generalize hg : p.getD i default = g at *
    generalize hco : (calledF p).take i = co at *
    have hcol : co.length = i := by rw [← hco, List.length_take]; omega
    have hlb := (hw g hgi).1
    refine AWP.loop (fun k : Nat => ⟨tab [(0, .ro 6 (rowsGr p)), (3, .sl 0 1 0 i i), (4, .int .i64 i), (5, .sl 1 1 0 p.length p.length), (6, .int .i64 k)], [some ⟨1, rowsII co⟩, some ⟨1, rowsB (mk p.length ((g.blocks.take k).flatMap (callsB p.length)))⟩], [0, 1, 2, 3, 4, 5, 6, 7, 8]⟩) (fun k => k ≤ g.blocks.length) (fun k => g.blocks.length - k) 0 (Imp.gen ⟨⟨_, rfl, .refl _⟩, ⟨_, rfl, .refl _⟩, ⟨_, rfl, .refl _⟩, ⟨_, rfl, .refl _⟩, ⟨_, rfl, .refl _⟩, trivial⟩ ⟨.refl _, .rows (by rw [rowsB_rep]; rfl), trivial⟩ (by simp)) (by simp) ?_
    rintro k hk
    refine wpC.soundL (cs := [(5, [], 1), (12, [], 1), (20, [], 2), (21, [], 2)]) follows (by kernel_rfl) ?_
    repeat' first | (refine Ad.introL (by first | omega | (unfold inI; omega)) ?_) | (refine ifQ_decL (fun _ => ?_) (fun _ => ?_)) | (simp -implicitDefEqProofs only [z1, z2, z3, z4, z5, z6, z7, z8, z9, z10, z11, z12, z13, z14, ↓z15, ↓z16, ↓z17, ↓z18, ↓z19, ↓z20, ↓z21, ↓z22, ↓z23, ↓z24, ↓z25, z26, z27, z28, reduceIte, Nat.reduceEqDiff, Nat.reduceSub, Nat.reduceAdd, z29, z30, z31, z32, alN, isAl, z33, z34, z35, z36, z37, z38, z39, z40, cwGet, z41, z42, z43, z44, z45, z46, z47, z48, z49, z50, z51, z52, z53, z54, z55, z56, z57, z58, z59, z60, z61, z62, z63, z64, z65, z66, z67, z68, z69, z70, z71, z72, z73, z74, z75, z76, z77, z78, z79, z80, z81, z82, z83, z84, z85, z86, z87, z88, z89, z90, z91, z92, z93, z94, z95, z96, z97, z98, z99, z100, z101, z102, z103, z104, z105, z106, z107, z108, z109, z110, z111, ↓z112, z113, z114, z115, z116, z117, z118, z119, z120, z121, z122, z123, z124, z125, z126, z127, z128, z129, z130, z131, z132, z133, z134, z135, z136, z137, z138, z139, z140, z141, z142, z143, z144, z145, Nat.reduceBEq, z146, z147, z148, z149, z150, z151, z152, z153, z154, z155, z156, z157, z158, spl, z159, partsL, chunk, z160, z161, z162, z163, z164, z165, z166, Nat.reduceLT, Nat.reduceLeDiff, Nat.reduceMul, z167, z168, z169, z170, z171, z172, z173, z174, z175, z176, z177, z178, z179, z180, z181, z182, z183, z184, z185, z186, z187, z188, z189, z190, z191, z192, z193, z194, z195, z196, z197, z198, z199, z200, z201, z202, z203, z204, z205, z206, z207, z208, z209, z210, z211, z212, z213, z214, z215, z216, z217, z218, z219, z220, z221, z222, z223, z224, z225, z226, z227, z228, z229, z230, z231, z232, z233, z234, z235, z236, z237, z238, z239, z240, z241, z242, z243, z244, z245, z246, z247, z248, alGet, z249, z250, z251, z252, z253, z254, z255, z256, z257, z258, z259, z260, z261, ↓z262, z263, z264, z265, z266, z267, z268, z269, z270, z271, z272, z273, z274, z275, z276, z277, z278, Nat.reduceBNe, z279, z280, z281, z282, z283, z284, z285, z286, z287, z288, z289, z290, z291, z292, z293, z294, z295, z296, z297, z298, z299, z300, z301, z302, z303, z304, z305, z306, z307, z308, z309, z310, z311, z312, z313, z314, z315, z316, z317, z318, z319, z320, insC, blockC, arrC, graphC, ix22, ix29, ix33, ix35, ix40, ix47, ix53, ix57, ld3, ld4, ld22, ld33, ld35, ld40, ld42, ld47, ld57, ld64, ld65, ld69, sz3, sz4, sz22, sz35, sz42, sz47, sz57, sz64, sz69, fl42_5, fl49_0, fl49_1, fl49_2, fl49_3, fl49_4, fl49_5, fl49_6, fl64_0, fl69_0, fl69_5, fl73_0, fl73_1, zr3, zr42, zr64, zr69, el22, el29, el33, el35, el40, el47, el53, el57, bl42, fp42_0, fp42_1, fp42_2, fp42_3, fp42_4, fp42_5, bl49, zr49, fp49_0, fp49_1, fp49_2, fp49_3, fp49_4, bl64, bl69, fp69_0, fp69_1, fp69_2, fp69_3, fp69_4, fp69_5, bl73, zr73, fp73_0, fp73_1, underlying22, underlying29, underlying33, underlying35, underlying40, underlying47, underlying53, underlying57, hg]) | (refine ifQ.introL (fun _ => ?_) (fun _ => ?_))
    · have hkl : k < g.blocks.length := by omega
      have hbm : g.blocks.getD k default ∈ g.blocks := getD_mem hkl
      have hsucc := flat_succ (d := default) (callsB p.length) hkl
      have hlb2 := (hw g hgi).2 _ hbm
      generalize hb : g.blocks.getD k default = b at *
      generalize hbase : (g.blocks.take k).flatMap (callsB p.length) = base at *
      unfold okB at hlb2
      refine AWP.loop (fun j : Nat => ⟨tab [(0, .ro 6 (rowsGr p)), (3, .sl 0 1 0 i i), (4, .int .i64 i), (5, .sl 1 1 0 p.length p.length), (6, .int .i64 k), (7, .int .i64 j)], [some ⟨1, rowsII co⟩, some ⟨1, rowsB (mk p.length (base ++ (b.ins.take j).flatMap (refsIn p.length)))⟩], [0, 1, 2, 3, 4, 5, 6, 7, 8]⟩) (fun j => j ≤ b.ins.length) (fun j => b.ins.length - j) 0 (Imp.gen ⟨⟨_, rfl, .refl _⟩, ⟨_, rfl, .refl _⟩, ⟨_, rfl, .refl _⟩, ⟨_, rfl, .refl _⟩, ⟨_, rfl, .refl _⟩, ⟨_, rfl, .refl _⟩, trivial⟩ ⟨.refl _, .rows (by simp), trivial⟩ (by simp)) (by simp) ?_
      rintro j hj
      have hs := fun h => flat_succ (d := default) (refsIn p.length) (l := b.ins) (k := j) h
      have hml := mk_length p.length (base ++ (b.ins.take j).flatMap (refsIn p.length))
      generalize hx : b.ins.getD j default = x at *
      generalize hcur : (b.ins.take j).flatMap (refsIn p.length) = cur at *
      refine wpC.soundL (cs := [(5, [], 1), (12, [], 1), (20, [], 2), (21, [], 2)]) follows (by kernel_rfl) ?_
      repeat' first | (refine Ad.introL (by first | omega | (unfold inI; omega)) ?_) | (refine ifQ_decL (fun _ => ?_) (fun _ => ?_)) | (simp -implicitDefEqProofs only [z1, z2, z3, z4, z5, z6, z7, z8, z9, z10, z11, z12, z13, z14, ↓z15, ↓z16, ↓z17, ↓z18, ↓z19, ↓z20, ↓z21, ↓z22, ↓z23, ↓z24, ↓z25, z26, z27, z28, reduceIte, Nat.reduceEqDiff, Nat.reduceSub, Nat.reduceAdd, z29, z30, z31, z32, alN, isAl, z33, z34, z35, z36, z37, z38, z39, z40, cwGet, z41, z42, z43, z44, z45, z46, z47, z48, z49, z50, z51, z52, z53, z54, z55, z56, z57, z58, z59, z60, z61, z62, z63, z64, z65, z66, z67, z68, z69, z70, z71, z72, z73, z74, z75, z76, z77, z78, z79, z80, z81, z82, z83, z84, z85, z86, z87, z88, z89, z90, z91, z92, z93, z94, z95, z96, z97, z98, z99, z100, z101, z102, z103, z104, z105, z106, z107, z108, z109, z110, z111, ↓z112, z113, z114, z115, z116, z117, z118, z119, z120, z121, z122, z123, z124, z125, z126, z127, z128, z129, z130, z131, z132, z133, z134, z135, z136, z137, z138, z139, z140, z141, z142, z143, z144, z145, Nat.reduceBEq, z146, z147, z148, z149, z150, z151, z152, z153, z154, z155, z156, z157, z158, spl, z159, partsL, chunk, z160, z161, z162, z163, z164, z165, z166, Nat.reduceLT, Nat.reduceLeDiff, Nat.reduceMul, z167, z168, z169, z170, z171, z172, z173, z174, z175, z176, z177, z178, z179, z180, z181, z182, z183, z184, z185, z186, z187, z188, z189, z190, z191, z192, z193, z194, z195, z196, z197, z198, z199, z200, z201, z202, z203, z204, z205, z206, z207, z208, z209, z210, z211, z212, z213, z214, z215, z216, z217, z218, z219, z220, z221, z222, z223, z224, z225, z226, z227, z228, z229, z230, z231, z232, z233, z234, z235, z236, z237, z238, z239, z240, z241, z242, z243, z244, z245, z246, z247, z248, alGet, z249, z250, z251, z252, z253, z254, z255, z256, z257, z258, z259, z260, z261, ↓z262, z263, z264, z265, z266, z267, z268, z269, z270, z271, z272, z273, z274, z275, z276, z277, z278, Nat.reduceBNe, z279, z280, z281, z282, z283, z284, z285, z286, z287, z288, z289, z290, z291, z292, z293, z294, z295, z296, z297, z298, z299, z300, z301, z302, z303, z304, z305, z306, z307, z308, z309, z310, z311, z312, z313, z314, z315, z316, z317, z318, z319, z320, insC, blockC, arrC, graphC, ix22, ix29, ix33, ix35, ix40, ix47, ix53, ix57, ld3, ld4, ld22, ld33, ld35, ld40, ld42, ld47, ld57, ld64, ld65, ld69, sz3, sz4, sz22, sz35, sz42, sz47, sz57, sz64, sz69, fl42_5, fl49_0, fl49_1, fl49_2, fl49_3, fl49_4, fl49_5, fl49_6, fl64_0, fl69_0, fl69_5, fl73_0, fl73_1, zr3, zr42, zr64, zr69, el22, el29, el33, el35, el40, el47, el53, el57, bl42, fp42_0, fp42_1, fp42_2, fp42_3, fp42_4, fp42_5, bl49, zr49, fp49_0, fp49_1, fp49_2, fp49_3, fp49_4, bl64, bl69, fp69_0, fp69_1, fp69_2, fp69_3, fp69_4, fp69_5, bl73, zr73, fp73_0, fp73_1, underlying22, underlying29, underlying33, underlying35, underlying40, underlying47, underlying53, underlying57, hg, hb, hx, hml]) | (refine ifQ.introL (fun _ => ?_) (fun _ => ?_))
      · have hr : refsIn p.length x = [x.ref] := if_pos ⟨by assumption, by assumption, by assumption⟩
        exact ⟨j + 1, by omega, by omega, Imp.cutF (X := [_]) ⟨⟨_, rfl, .refl _⟩, ⟨_, rfl, .refl _⟩, ⟨_, rfl, .refl _⟩, ⟨_, rfl, .refl _⟩, ⟨_, rfl, .refl _⟩, ⟨_, rfl, .refl _⟩, trivial⟩ ⟨.refl _, .rows (by rw [hs (by omega), hr, ← List.append_assoc, mk_snoc]), .refl _, trivial⟩ (by simp [refs, liveB]) ⟨rowsII_frz _, rowsB_frz _, trivial⟩ (fun _ h => h) (by simp)⟩
      · have hr : refsIn p.length x = [] := if_neg (by omega)
        exact ⟨j + 1, by omega, by omega, Imp.cutF (X := [_]) ⟨⟨_, rfl, .refl _⟩, ⟨_, rfl, .refl _⟩, ⟨_, rfl, .refl _⟩, ⟨_, rfl, .refl _⟩, ⟨_, rfl, .refl _⟩, ⟨_, rfl, .refl _⟩, trivial⟩ ⟨.refl _, .rows (by rw [hs (by omega), hr, List.append_nil]), .refl _, trivial⟩ (by simp [refs, liveB]) ⟨rowsII_frz _, rowsB_frz _, trivial⟩ (fun _ h => h) (by simp)⟩
      · have hr : refsIn p.length x = [] := if_neg (by omega)
        exact ⟨j + 1, by omega, by omega, Imp.cutF (X := [_]) ⟨⟨_, rfl, .refl _⟩, ⟨_, rfl, .refl _⟩, ⟨_, rfl, .refl _⟩, ⟨_, rfl, .refl _⟩, ⟨_, rfl, .refl _⟩, ⟨_, rfl, .refl _⟩, trivial⟩ ⟨.refl _, .rows (by rw [hs (by omega), hr, List.append_nil]), .refl _, trivial⟩ (by simp [refs, liveB]) ⟨rowsII_frz _, rowsB_frz _, trivial⟩ (fun _ h => h) (by simp)⟩
      · have hr : refsIn p.length x = [] := if_neg (by omega)
        exact ⟨j + 1, by omega, by omega, Imp.cutF (X := [_]) ⟨⟨_, rfl, .refl _⟩, ⟨_, rfl, .refl _⟩, ⟨_, rfl, .refl _⟩, ⟨_, rfl, .refl _⟩, ⟨_, rfl, .refl _⟩, ⟨_, rfl, .refl _⟩, trivial⟩ ⟨.refl _, .rows (by rw [hs (by omega), hr, List.append_nil]), .refl _, trivial⟩ (by simp [refs, liveB]) ⟨rowsII_frz _, rowsB_frz _, trivial⟩ (fun _ h => h) (by simp)⟩
      · obtain rfl : j = b.ins.length := by omega
        rw [List.take_length] at hcur
        exact ⟨k + 1, by omega, by omega, Imp.gen ⟨⟨_, rfl, .refl _⟩, ⟨_, rfl, .refl _⟩, ⟨_, rfl, .refl _⟩, ⟨_, rfl, .refl _⟩, ⟨_, rfl, .refl _⟩, trivial⟩ ⟨.refl _, .rows (by rw [hsucc, ← hcur]; rfl), trivial⟩ (by simp)⟩
    · obtain rfl : k = g.blocks.length := by omega
      rw [List.take_length]
      have hcan := upS_canon (n := p.length) (l := callsG p.length g) calls_ok
      have hsl := mk_length p.length (callsG p.length g)
      have hfold : g.blocks.flatMap (callsB p.length) = callsG p.length g := rfl
      rw [hfold]
      generalize callsG p.length g = cg at *
      refine AWP.post (Q := fun e s => e = .exit 6 ∧ Imp G 94 s ⟨tab [(0, .ro 6 (rowsGr p)), (3, .sl 0 1 0 i i), (4, .int .i64 i), (9, .ro 1 (rowsI (canon cg)))], [some ⟨1, rowsII co⟩, some ⟨1, rowsB (mk p.length cg)⟩, none], [0, 1, 2, 3, 4, 5, 6, 7, 8]⟩) ?_ ?_
      · refine AWP.loop (fun m : Nat => ⟨tab [(0, .ro 6 (rowsGr p)), (3, .sl 0 1 0 i i), (4, .int .i64 i), (5, .sl 1 1 0 p.length p.length), (9, .sl 2 1 0 (upS (mk p.length cg) m).length (upS (mk p.length cg) m).length), (10, .int .i64 m)], [some ⟨1, rowsII co⟩, some ⟨1, rowsB (mk p.length cg)⟩, some ⟨1, rowsI (castL (upS (mk p.length cg) m))⟩], [0, 1, 2, 3, 4, 5, 6, 7, 8]⟩) (fun m => m ≤ p.length) (fun m => p.length - m) 0 (Imp.gen ⟨⟨_, rfl, .refl _⟩, ⟨_, rfl, .refl _⟩, ⟨_, rfl, .refl _⟩, ⟨_, rfl, .refl _⟩, ⟨_, rfl, .virt 2 1 0⟩, ⟨_, rfl, .refl _⟩, trivial⟩ ⟨.refl _, .refl _, rfl, trivial⟩ (by simp)) (by simp) ?_
        rintro m hm
        have hus := upS_succ (mk p.length cg) m
        have hul := upS_len (mk p.length cg) m
        generalize hrow : upS (mk p.length cg) m = row at *
        generalize hsm : (mk p.length cg).getD m false = sm at *
        have hcr := castL_length row
        refine wpC.soundL (cs := [(5, [], 1), (12, [], 1), (20, [], 2), (21, [], 2)]) follows (by kernel_rfl) ?_
        repeat' first | (refine Ad.introL (by first | omega | (unfold inI; omega)) ?_) | (refine ifQ_decL (fun _ => ?_) (fun _ => ?_)) | (simp -implicitDefEqProofs only [z1, z2, z3, z4, z5, z6, z7, z8, z9, z10, z11, z12, z13, z14, ↓z15, ↓z16, ↓z17, ↓z18, ↓z19, ↓z20, ↓z21, ↓z22, ↓z23, ↓z24, ↓z25, z26, z27, z28, reduceIte, Nat.reduceEqDiff, Nat.reduceSub, Nat.reduceAdd, z29, z30, z31, z32, alN, isAl, z33, z34, z35, z36, z37, z38, z39, z40, cwGet, z41, z42, z43, z44, z45, z46, z47, z48, z49, z50, z51, z52, z53, z54, z55, z56, z57, z58, z59, z60, z61, z62, z63, z64, z65, z66, z67, z68, z69, z70, z71, z72, z73, z74, z75, z76, z77, z78, z79, z80, z81, z82, z83, z84, z85, z86, z87, z88, z89, z90, z91, z92, z93, z94, z95, z96, z97, z98, z99, z100, z101, z102, z103, z104, z105, z106, z107, z108, z109, z110, z111, ↓z112, z113, z114, z115, z116, z117, z118, z119, z120, z121, z122, z123, z124, z125, z126, z127, z128, z129, z130, z131, z132, z133, z134, z135, z136, z137, z138, z139, z140, z141, z142, z143, z144, z145, Nat.reduceBEq, z146, z147, z148, z149, z150, z151, z152, z153, z154, z155, z156, z157, z158, spl, z159, partsL, chunk, z160, z161, z162, z163, z164, z165, z166, Nat.reduceLT, Nat.reduceLeDiff, Nat.reduceMul, z167, z168, z169, z170, z171, z172, z173, z174, z175, z176, z177, z178, z179, z180, z181, z182, z183, z184, z185, z186, z187, z188, z189, z190, z191, z192, z193, z194, z195, z196, z197, z198, z199, z200, z201, z202, z203, z204, z205, z206, z207, z208, z209, z210, z211, z212, z213, z214, z215, z216, z217, z218, z219, z220, z221, z222, z223, z224, z225, z226, z227, z228, z229, z230, z231, z232, z233, z234, z235, z236, z237, z238, z239, z240, z241, z242, z243, z244, z245, z246, z247, z248, alGet, z249, z250, z251, z252, z253, z254, z255, z256, z257, z258, z259, z260, z261, ↓z262, z263, z264, z265, z266, z267, z268, z269, z270, z271, z272, z273, z274, z275, z276, z277, z278, Nat.reduceBNe, z279, z280, z281, z282, z283, z284, z285, z286, z287, z288, z289, z290, z291, z292, z293, z294, z295, z296, z297, z298, z299, z300, z301, z302, z303, z304, z305, z306, z307, z308, z309, z310, z311, z312, z313, z314, z315, z316, z317, z318, z319, z320, insC, blockC, arrC, graphC, ix22, ix29, ix33, ix35, ix40, ix47, ix53, ix57, ld3, ld4, ld22, ld33, ld35, ld40, ld42, ld47, ld57, ld64, ld65, ld69, sz3, sz4, sz22, sz35, sz42, sz47, sz57, sz64, sz69, fl42_5, fl49_0, fl49_1, fl49_2, fl49_3, fl49_4, fl49_5, fl49_6, fl64_0, fl69_0, fl69_5, fl73_0, fl73_1, zr3, zr42, zr64, zr69, el22, el29, el33, el35, el40, el47, el53, el57, bl42, fp42_0, fp42_1, fp42_2, fp42_3, fp42_4, fp42_5, bl49, zr49, fp49_0, fp49_1, fp49_2, fp49_3, fp49_4, bl64, bl69, fp69_0, fp69_1, fp69_2, fp69_3, fp69_4, fp69_5, bl73, zr73, fp73_0, fp73_1, underlying22, underlying29, underlying33, underlying35, underlying40, underlying47, underlying53, underlying57, hsl, hsm, hcr]) | (refine ifQ.introL (fun _ => ?_) (fun _ => ?_))
        · rename_i h1 h2
          rw [h2] at hus
          exact ⟨m + 1, by omega, by omega, Imp.cutF (X := [_, _]) ⟨⟨_, rfl, .refl _⟩, ⟨_, rfl, .refl _⟩, ⟨_, rfl, .refl _⟩, ⟨_, rfl, .refl _⟩, ⟨_, rfl, .eq (by rw [hus]; simp)⟩, ⟨_, rfl, .refl _⟩, trivial⟩ ⟨.refl _, .refl _, .rows (by rw [hus, List.take_of_length_le (by omega)]; simp [castL]), .refl _, .refl _, trivial⟩ (by simp [refs, liveB]) ⟨rowsII_frz _, rowsB_frz _, rowsI_frz _, trivial⟩ (by simp) (by simp; omega)⟩
        · rename_i h1 h2
          rw [h2] at hus
          have hus2 : upS (mk p.length cg) (m + 1) = row := by rw [hus]; simp
          exact ⟨m + 1, by omega, by omega, Imp.gen ⟨⟨_, rfl, .refl _⟩, ⟨_, rfl, .refl _⟩, ⟨_, rfl, .refl _⟩, ⟨_, rfl, .refl _⟩, ⟨_, rfl, .eq (by rw [hus2])⟩, ⟨_, rfl, .refl _⟩, trivial⟩ ⟨.refl _, .refl _, .rows (by rw [hus2]), trivial⟩ (by simp)⟩
        · obtain rfl : m = p.length := by omega
          have hcc : castL row = canon cg := by rw [← hrow]; exact hcan
          rw [← hcc]
          refine Imp.frz1 2 rfl (fun q hq => ?_) (fun id b' hb hne row' hr => ?_) (by simp) (by simp)
          · simp only [List.mem_cons, List.mem_nil_iff, or_false] at hq
            rcases hq with rfl | rfl | rfl | rfl
            · exact ⟨_, rfl, .inl ⟨rfl, by simp [refs]⟩⟩
            · exact ⟨_, rfl, .inl ⟨rfl, by simp [refs]⟩⟩
            · exact ⟨_, rfl, .inl ⟨rfl, by simp [refs]⟩⟩
            · exact ⟨_, rfl, .inr (View.own rfl (by rw [rowsI_length, hcr]) (rowsI_frz _))⟩
          · match id, hb, hne with
            | 0, hb, _ => cases hb; rw [rowsII_frz _ row' hr]; simp
            | 1, hb, _ => cases hb; rw [rowsB_frz _ row' hr]; simp
            | 2, _, hne => exact absurd rfl hne
            | n + 3, hb, _ => simp at hb
      · rintro e s ⟨rfl, hi'⟩
        refine ⟨_, hi', ?_⟩
        repeat' first | (refine Ad.introL (by first | omega | (unfold inI; omega)) ?_) | (refine ifQ_decL (fun _ => ?_) (fun _ => ?_)) | (simp -implicitDefEqProofs only [z1, z2, z3, z4, z5, z6, z7, z8, z9, z10, z11, z12, z13, z14, ↓z15, ↓z16, ↓z17, ↓z18, ↓z19, ↓z20, ↓z21, ↓z22, ↓z23, ↓z24, ↓z25, z26, z27, z28, reduceIte, Nat.reduceEqDiff, Nat.reduceSub, Nat.reduceAdd, z29, z30, z31, z32, alN, isAl, z33, z34, z35, z36, z37, z38, z39, z40, cwGet, z41, z42, z43, z44, z45, z46, z47, z48, z49, z50, z51, z52, z53, z54, z55, z56, z57, z58, z59, z60, z61, z62, z63, z64, z65, z66, z67, z68, z69, z70, z71, z72, z73, z74, z75, z76, z77, z78, z79, z80, z81, z82, z83, z84, z85, z86, z87, z88, z89, z90, z91, z92, z93, z94, z95, z96, z97, z98, z99, z100, z101, z102, z103, z104, z105, z106, z107, z108, z109, z110, z111, ↓z112, z113, z114, z115, z116, z117, z118, z119, z120, z121, z122, z123, z124, z125, z126, z127, z128, z129, z130, z131, z132, z133, z134, z135, z136, z137, z138, z139, z140, z141, z142, z143, z144, z145, Nat.reduceBEq, z146, z147, z148, z149, z150, z151, z152, z153, z154, z155, z156, z157, z158, spl, z159, partsL, chunk, z160, z161, z162, z163, z164, z165, z166, Nat.reduceLT, Nat.reduceLeDiff, Nat.reduceMul, z167, z168, z169, z170, z171, z172, z173, z174, z175, z176, z177, z178, z179, z180, z181, z182, z183, z184, z185, z186, z187, z188, z189, z190, z191, z192, z193, z194, z195, z196, z197, z198, z199, z200, z201, z202, z203, z204, z205, z206, z207, z208, z209, z210, z211, z212, z213, z214, z215, z216, z217, z218, z219, z220, z221, z222, z223, z224, z225, z226, z227, z228, z229, z230, z231, z232, z233, z234, z235, z236, z237, z238, z239, z240, z241, z242, z243, z244, z245, z246, z247, z248, alGet, z249, z250, z251, z252, z253, z254, z255, z256, z257, z258, z259, z260, z261, ↓z262, z263, z264, z265, z266, z267, z268, z269, z270, z271, z272, z273, z274, z275, z276, z277, z278, Nat.reduceBNe, z279, z280, z281, z282, z283, z284, z285, z286, z287, z288, z289, z290, z291, z292, z293, z294, z295, z296, z297, z298, z299, z300, z301, z302, z303, z304, z305, z306, z307, z308, z309, z310, z311, z312, z313, z314, z315, z316, z317, z318, z319, z320, insC, blockC, arrC, graphC, ix22, ix29, ix33, ix35, ix40, ix47, ix53, ix57, ld3, ld4, ld22, ld33, ld35, ld40, ld42, ld47, ld57, ld64, ld65, ld69, sz3, sz4, sz22, sz35, sz42, sz47, sz57, sz64, sz69, fl42_5, fl49_0, fl49_1, fl49_2, fl49_3, fl49_4, fl49_5, fl49_6, fl64_0, fl69_0, fl69_5, fl73_0, fl73_1, zr3, zr42, zr64, zr69, el22, el29, el33, el35, el40, el47, el53, el57, bl42, fp42_0, fp42_1, fp42_2, fp42_3, fp42_4, fp42_5, bl49, zr49, fp49_0, fp49_1, fp49_2, fp49_3, fp49_4, bl64, bl69, fp69_0, fp69_1, fp69_2, fp69_3, fp69_4, fp69_5, bl73, zr73, fp73_0, fp73_1, underlying22, underlying29, underlying33, underlying35, underlying40, underlying47, underlying53, underlying57]) | (refine ifQ.introL (fun _ => ?_) (fun _ => ?_))
        exact ⟨i + 1, by omega, by omega, Imp.cutF (X := [_, _, _, _]) ⟨⟨_, rfl, .refl _⟩, ⟨_, rfl, .refl _⟩, ⟨_, rfl, .refl _⟩, trivial⟩ ⟨.rows (by rw [hct, List.take_of_length_le (by omega)]), .refl _, .refl _, .refl _, .refl _, trivial⟩ (by simp [refs, liveB]) ⟨rowsII_frz _, trivial⟩ (by simp) (by simp; omega)⟩
  · obtain rfl : i = p.length := by omega
    rw [List.take_of_length_le (by omega)]
    exact View.own rfl (by rw [rowsII_length]; exact hcl) (rowsII_frz _)
end Go.Aw
