/- For the proofs: the same rules, what is owed first. -/
import Derived.Test.YteeopipgglngmaaA3
set_option linter.all false
set_option linter.unusedVariables false
set_option linter.unusedSimpArgs false
namespace Go.Aw
open Go
/-- What is owed, ahead of what comes of it. -/
def Ad (A B : Prop) : Prop := A ∧ B
@[congr] theorem Ad_congr {A A' B : Prop} (h : A = A') : Ad A B = Ad A' B := by rw [h]
theorem Ad_true {B : Prop} : Ad True B = B := by simp [Ad]
theorem Ad.intro {A B : Prop} (a : A) (b : B) : Ad A B := ⟨a, b⟩
/-- Two ways. -/
def ifQ (v : Bool) (A B : Prop) : Prop := (v = true → A) ∧ (v = false → B)
@[congr] theorem ifQ_congr {v v' : Bool} {A B : Prop} (h : v = v') : ifQ v A B = ifQ v' A B := by rw [h]
theorem ifQ_true {A B : Prop} : ifQ true A B = A := by simp [ifQ]
theorem ifQ_false {A B : Prop} : ifQ false A B = B := by simp [ifQ]
theorem ifQ.intro {v : Bool} {A B : Prop} (a : v = true → A) (b : v = false → B) : ifQ v A B := ⟨a, b⟩
theorem ifQ_dec {p : Prop} [Decidable p] {A B : Prop} (a : p → A) (b : ¬ p → B) : ifQ (decide p) A B := ⟨fun h => a (by simpa using h), fun h => b (by simpa using h)⟩
theorem ifQ_not {v : Bool} {A B : Prop} : ifQ (!v) A B = ifQ v B A := by cases v <;> simp [ifQ]
theorem ifQ_pos {p : Prop} [Decidable p] {A B : Prop} (h : p) : ifQ (decide p) A B = A := by simp [ifQ, h]

/-- The slot that an operation fills. -/
def dstAt (ops : Array Oper) (j : Nat) : Option Nat := (ops[j]?).bind (·.dst)
section
variable {P : Program} {G : Glob} {N : Nat} {cs : CwOf}
theorem wpC_condA {c : Operand} {a b : Code} {Q : Exit → St → Prop} {st : St} : wpC P G N cs (.cond c a b) Q st = Ob ((ev G st.T c).bind asB) fun v => ifQ v (wpC P G N cs a Q st) (wpC P G N cs b Q st) := rfl
theorem guardQ_boolA {x b : Bool} {A B C : Prop} : guardQ (.bool x) b A B C = ifQ (x == b) A B := by cases x <;> cases b <;> simp [guardQ, ifQ]
theorem ixQ_roA {s : Nat} {rows : List (List AV)} {n : Int} {K : AV → Prop} : ixQ (none, s) (.ro s rows) n K = Ad (0 ≤ n ∧ n < rows.length) (K (.rptr (rows.getD n.toNat []))) := ixQ_ro
theorem ixQ_slA {s id off len m : Nat} {n : Int} {K : AV → Prop} : ixQ (none, s) (.sl id s off len m) n K = Ad (0 ≤ n ∧ n < len) (K (.ptr id s (off + n.toNat) 0)) := ixQ_sl
theorem ixQ_ptrA {k e id s i j : Nat} {n : Int} {K : AV → Prop} : ixQ (some k, e) (.ptr id s i j) n K = Ad (0 ≤ n ∧ n < k) (K (.ptr id s i (j + n.toNat * e))) := ixQ_ptr
theorem ixQ_rowsIA {a : List Int} {n : Int} {K : AV → Prop} : ixQ (none, 1) (.ro 1 (rowsI a)) n K = Ad (0 ≤ n ∧ n < a.length) (K (.rptr [.int .i64 (a.getD n.toNat 0)])) := ixQ_rowsI
theorem ixQ_rowsBA {a : List Bool} {n : Int} {K : AV → Prop} : ixQ (none, 1) (.ro 1 (rowsB a)) n K = Ad (0 ≤ n ∧ n < a.length) (K (.rptr [.bool (a.getD n.toNat false)])) := ixQ_rowsB
theorem ixQ_rowsIIA {a : List (List Int)} {n : Int} {K : AV → Prop} : ixQ (none, 1) (.ro 1 (rowsII a)) n K = Ad (0 ≤ n ∧ n < a.length) (K (.rptr [.ro 1 (rowsI (a.getD n.toNat []))])) := ixQ_rowsII
theorem ldQ_rptrA {l : Option Nat} {cs : List AV} {H : List (Option Blk)} {K : AV → Prop} : ldQ l (.rptr cs) H K = Ad (rdC l cs).1 (K (rdC l cs).2) := rfl
theorem ldB_rowA {l : Option Nat} {s j : Nat} {row : List AV} {K : AV → Prop} : ldB l s 0 j ⟨s, [row]⟩ K = Ad (rdC l (row.drop j)).1 (K (rdC l (row.drop j)).2) := ldB_row
theorem ldB_rowsIA {i : Nat} {a : List Int} {K : AV → Prop} : ldB none 1 i 0 ⟨1, rowsI a⟩ K = Ad (i < a.length) (K (.int .i64 (a.getD i 0))) := ldB_rowsI
theorem ldB_rowsBA {i : Nat} {a : List Bool} {K : AV → Prop} : ldB none 1 i 0 ⟨1, rowsB a⟩ K = Ad (i < a.length) (K (.bool (a.getD i false))) := ldB_rowsB
theorem ldB_rowsIIA {i : Nat} {a : List (List Int)} {K : AV → Prop} : ldB none 1 i 0 ⟨1, rowsII a⟩ K = Ad (i < a.length) (K (.ro 1 (rowsI (a.getD i [])))) := ldB_rowsII
theorem ldB_rowsP0A {i : Nat} {a : List (Int × Int)} {K : AV → Prop} : ldB none 2 i 0 ⟨2, rowsP a⟩ K = Ad (i < a.length) (K (.int .i64 (a.getD i (0, 0)).1)) := ldB_rowsP0
theorem ldB_rowsP1A {i : Nat} {a : List (Int × Int)} {K : AV → Prop} : ldB none 2 i 1 ⟨2, rowsP a⟩ K = Ad (i < a.length) (K (.int .i64 (a.getD i (0, 0)).2)) := ldB_rowsP1
theorem stB_rowA {n s j : Nat} {cs row : List AV} {K : Blk → Prop} : stB n s 0 j cs ⟨s, [row]⟩ K = Ad (cs.length = n ∧ j + n ≤ row.length) (K ⟨s, [spl row j cs]⟩) := by rw [stB_row]; simp [Ad, and_assoc]
theorem stB_rowsIA {i : Nat} {a : List Int} {v : Int} {K : Blk → Prop} : stB 1 1 i 0 [.int .i64 v] ⟨1, rowsI a⟩ K = Ad (i < a.length) (K ⟨1, rowsI (a.set i v)⟩) := stB_rowsI
theorem stB_rowsBA {i : Nat} {a : List Bool} {v : Bool} {K : Blk → Prop} : stB 1 1 i 0 [.bool v] ⟨1, rowsB a⟩ K = Ad (i < a.length) (K ⟨1, rowsB (a.set i v)⟩) := stB_rowsB
theorem stB_rowsIIA {i : Nat} {a : List (List Int)} {v : List Int} {K : Blk → Prop} : stB 1 1 i 0 [.ro 1 (rowsI v)] ⟨1, rowsII a⟩ K = Ad (i < a.length) (K ⟨1, rowsII (a.set i v)⟩) := stB_rowsII
theorem stB_rowsP1A {i : Nat} {a : List (Int × Int)} {v : Int} {K : Blk → Prop} : stB 1 2 i 1 [.int .i64 v] ⟨2, rowsP a⟩ K = Ad (i < a.length) (K ⟨2, rowsP (a.set i ((a.getD i (0, 0)).1, v))⟩) := stB_rowsP1
theorem srcQ_slA {es id s off len m : Nat} {H : List (Option Blk)} {K : List (List AV) → Prop} : srcQ es (.sl id s off len m) H K = blkQ H id fun b => Ad (b.s = s ∧ s = es) (Ad (off + len ≤ b.rows.length) (K ((b.rows.drop off).take len))) := rfl
theorem srcQ_roA {es s : Nat} {rows : List (List AV)} {H : List (Option Blk)} {K : List (List AV) → Prop} : srcQ es (.ro s rows) H K = Ad (s = es ∨ rows = []) (K rows) := rfl
theorem appQ_nilsA {es by_ : Nat} {H : List (Option Blk)} {slot : Nat} {news : List (List AV)} {K : AV → List (Option Blk) → List Nat → Prop} : appQ es by_ .nils H slot news K = Ad (news.length * by_ ≤ 140737488355328 ∧ news.length ≤ 140737488355328) (Ad (H[slot]? = some none) (K (.sl slot es 0 news.length news.length) (H.set slot (some ⟨es, news⟩)) [])) := rfl
theorem appQ_slA {es by_ id s off len m : Nat} {H : List (Option Blk)} {slot : Nat} {news : List (List AV)} {K : AV → List (Option Blk) → List Nat → Prop} : appQ es by_ (.sl id s off len m) H slot news K = blkQ H id fun b => appB s es by_ off len b news fun rows => Ad (H[slot]? = some none) (K (.sl id es 0 (len + news.length) (len + news.length)) ((killH id H).set id (some ⟨es, killR id rows⟩)) [id]) := rfl
theorem appBA {s es by_ off len : Nat} {b : Blk} {news : List (List AV)} {K : List (List AV) → Prop} : appB s es by_ off len b news K = Ad (b.s = s ∧ s = es) (Ad (off + len ≤ b.rows.length ∧ (len + news.length) * by_ ≤ 140737488355328 ∧ len + news.length ≤ 140737488355328) (K ((b.rows.drop off).take len ++ news))) := rfl
theorem slQ_slA {es id s off len m : Nat} {lo : Int} {hi : Option Int} {K : AV → Prop} : slQ es (.sl id s off len m) lo hi none K = Ad (es = s) (Ad (0 ≤ lo ∧ lo ≤ hi.getD len ∧ hi.getD len ≤ m) (K (.sl id s (off + lo.toNat) (hi.getD len - lo).toNat (m - lo.toNat)))) := rfl
theorem slQ_sl3A {es id s off len m : Nat} {lo h k : Int} {K : AV → Prop} : slQ es (.sl id s off len m) lo (some h) (some k) K = Ad (es = s) (Ad (0 ≤ lo ∧ lo ≤ h ∧ h ≤ k ∧ k ≤ m) (K (.sl id s (off + lo.toNat) (h - lo).toNat (k - lo).toNat))) := slQ_sl3
theorem slQ_roA {es s : Nat} {rows : List (List AV)} {lo : Int} {hi : Option Int} {K : AV → Prop} : slQ es (.ro s rows) lo hi none K = Ad (es = s) (Ad (0 ≤ lo ∧ lo ≤ hi.getD rows.length ∧ hi.getD rows.length ≤ rows.length) (K (.ro s ((rows.take (hi.getD rows.length).toNat).drop lo.toNat)))) := rfl
theorem fillQ_consA {place : Nat → Option (Nat × Nat)} {cells : List AV} {f : Nat} {v : AV} {rest : List (Nat × AV)} {K : List AV → Prop} : fillQ place cells ((f, v) :: rest) K = Ob (place f) fun p => Ob (cellsQ v) fun cs => Ad (cs.length = p.2 ∧ p.1 + p.2 ≤ cells.length) (fillQ place (spl cells p.1 cs) rest K) := rfl
theorem fdQ_aggA {l : Nat × Option Nat} {cs : List AV} {K : AV → Prop} : fdQ l (.agg cs) K = Ad (rdC l.2 (cs.drop l.1)).1 (K (rdC l.2 (cs.drop l.1)).2) := rfl
theorem unQ_negA {k : IntKind} {n : Int} {K : AV → Prop} : unQ .neg (.int k n) K = Ad (arI k (0 - n)).1 (K (arI k (0 - n)).2) := rfl
section rules
variable {cw : List Nat} {hmf : List (Option Blk) → List (Option Blk)} {i slot : Nat} {d : Option Tmp} {ty : TypeId} {pos : String} {aft : Array Edge} {gd : Option (Nat × Bool)} {st : St} {Q : St → Prop}
theorem doQ_binOpA {op : BinOp} {t u : TypeId} {x y : Operand} : doQ P G cw hmf i slot ⟨d, .binOp op t x y u, ty, pos, aft, gd⟩ st Q = Ob (ev G st.T x) fun a => Ob (ev G st.T y) fun b => Ob (binT P op t a b) fun p => Ad p.1 (Q ⟨put st.T d p.2, st.H, st.M⟩) := doQ_binOp
theorem doQ_appendA {x y : Operand} {t : TypeId} : doQ P G cw hmf i slot ⟨d, .call { callee := .builtin .append, args := #[x, y], argTypes := #[t, t] }, ty, pos, aft, gd⟩ st Q = Ob (elI P t) fun e => Ad (0 < e.1) (Ob (ev G st.T x) fun a => Ob (ev G st.T y) fun b => srcQ e.1 b st.H fun news => appQ e.1 e.2.1 a st.H slot news fun v H' Ks => Q ⟨put (killKT Ks st.T) d v, H', Ks ++ st.M⟩) := doQ_append
theorem doQ_allocA {t : TypeId} : doQ P G cw hmf i slot ⟨d, .alloc t, ty, pos, aft, gd⟩ st Q = Ob (zrI P t) fun z => Ad (st.H[slot]? = some none) (Q ⟨put st.T d (.ptr slot z.length 0 0), st.H.set slot (some ⟨z.length, [z]⟩), st.M⟩) := doQ_alloc
theorem doQ_boxA {t : TypeId} {x : Operand} : doQ P G cw hmf i slot ⟨d, .box t x, ty, pos, aft, gd⟩ st Q = Ob ((ev G st.T x).bind cellsQ) fun cs => Ad (st.H[slot]? = some none) (Q ⟨put st.T d (.ptr slot cs.length 0 0), st.H.set slot (some ⟨cs.length, [cs]⟩), st.M⟩) := doQ_box
theorem doQ_makeSliceA {t : TypeId} {x y : Operand} : doQ P G cw hmf i slot ⟨d, .makeSlice t x y, ty, pos, aft, gd⟩ st Q = Ob (elI P t) fun e => Ob ((ev G st.T x).bind asI) fun l => Ob ((ev G st.T y).bind asI) fun c =>
    Ad (0 < e.1) (Ad (0 ≤ l ∧ l ≤ c ∧ e.2.1 * c ≤ 140737488355328 ∧ c ≤ 140737488355328) (Ad (st.H[slot]? = some none) (Q ⟨put st.T d (.sl slot e.1 0 l.toNat c.toNat), st.H.set slot (some ⟨e.1, List.replicate c.toNat e.2.2⟩), st.M⟩))) := doQ_makeSlice
theorem doQ_buildSliceA {t : TypeId} {n : Nat} {ps : Array (Nat × Operand)} : doQ P G cw hmf i slot ⟨d, .buildSlice t n ps, ty, pos, aft, gd⟩ st Q = Ob (elI P t) fun e => Ob (partsL (ev G st.T) ps.toList) fun l => Ad (n * e.1 ≤ 1024 ∧ 0 < n ∧ 0 < e.1)
    (fillQ (fun i => some (i * e.1, e.1)) (List.replicate n e.2.2).flatten l fun cs => Ad (st.H[slot]? = some none) (Q ⟨put st.T d (.sl slot e.1 0 n n), st.H.set slot (some ⟨e.1, chunk e.1 n cs⟩), st.M⟩)) := doQ_buildSliceF
theorem doQ_sliceA {t : TypeId} {x : Operand} {lo hi mx : Option Operand} (h : (ixI P t).isSome = true) : doQ P G cw hmf i slot ⟨d, .slice t x lo hi mx, ty, pos, aft, gd⟩ st Q = Ob (ixI P t) fun l => Ad (l.1 = none) (Ob (ev G st.T x) fun a => Ob (bndQ (ev G st.T) lo) fun lo => Ob (bndQ (ev G st.T) hi) fun hi => Ob (bndQ (ev G st.T) mx) fun mx => slQ l.2 a (lo.getD 0) hi mx fun v => Q ⟨put st.T d v, st.H, st.M⟩) := doQ_sliceQ h
end rules
end
end Go.Aw

/- For the proofs: the rules of computation, what comes later held shut (printed by a program). -/
set_option linter.unusedVariables false
set_option linter.unusedSimpArgs false
namespace Go.Aw
open Go
universe u v
/-- A mark by which simp leaves a thing alone till it is asked for. -/
inductive Tag {α : Sort u} (a : α) : Type
  | mk
def lock {α : Sort u} (a : α) (u : Tag a) : α := a
theorem lock_app {α : Sort u} {β : Sort v} (f : α → β) (u : Tag f) (a : α) : lock f u a = f a := rfl
theorem Ad_trueL {B : Prop} {u : Tag B} : Ad True (lock B u) = B := Ad_true
theorem ifQ_trueL {A B : Prop} {u : Tag A} : ifQ true (lock A u) B = A := ifQ_true
theorem ifQ_falseL {A B : Prop} {u : Tag B} : ifQ false A (lock B u) = B := ifQ_false
theorem Ad.introL {A B : Prop} {u : Tag B} (a : A) (b : B) : Ad A (lock B u) := ⟨a, b⟩
theorem ifQ.introL {v : Bool} {A B : Prop} {u : Tag A} {u' : Tag B} (a : v = true → A) (b : v = false → B) : ifQ v (lock A u) (lock B u') := ⟨a, b⟩
theorem ifQ_decL {p : Prop} [Decidable p] {A B : Prop} {u : Tag A} {u' : Tag B} (a : p → A) (b : ¬ p → B) : ifQ (decide p) (lock A u) (lock B u') := ifQ_dec a b
theorem guardQ_tupL {b : Bool} {A B C : Prop} {u : Tag C} : guardQ (.tup []) b A B (lock C u) = C := rfl
theorem nilQ_ptrL {id s i j : Nat} {K : Prop} {u : Tag K} : nilQ (.ptr id s i j) (lock K u) = K := rfl
theorem nilQ_rptrL {cs : List AV} {K : Prop} {u : Tag K} : nilQ (.rptr cs) (lock K u) = K := rfl
theorem nilQ_fnL {f : FuncId} {cs : List AV} {K : Prop} {u : Tag K} : nilQ (.fn f cs) (lock K u) = K := rfl
theorem lock_in (p : Prop) : p = lock p .mk := rfl
section
variable {P : Program} {G : Glob} {N : Nat} {cs : CwOf}

theorem ixQ_rowsIAL {a : List Int} {n : Int} {K : AV → Prop} : ixQ (none, 1) (.ro 1 (rowsI a)) n K = Ad (0 ≤ n ∧ n < a.length) (lock (K (.rptr [.int .i64 (a.getD n.toNat 0)])) .mk) := ixQ_rowsIA
theorem ixQ_rowsBAL {a : List Bool} {n : Int} {K : AV → Prop} : ixQ (none, 1) (.ro 1 (rowsB a)) n K = Ad (0 ≤ n ∧ n < a.length) (lock (K (.rptr [.bool (a.getD n.toNat false)])) .mk) := ixQ_rowsBA
theorem ixQ_rowsIIAL {a : List (List Int)} {n : Int} {K : AV → Prop} : ixQ (none, 1) (.ro 1 (rowsII a)) n K = Ad (0 ≤ n ∧ n < a.length) (lock (K (.rptr [.ro 1 (rowsI (a.getD n.toNat []))])) .mk) := ixQ_rowsIIA
theorem ixQ_slAL {s id off len m : Nat} {n : Int} {K : AV → Prop} : ixQ (none, s) (.sl id s off len m) n K = Ad (0 ≤ n ∧ n < len) (lock (K (.ptr id s (off + n.toNat) 0)) .mk) := ixQ_slA
theorem ixQ_ptrAL {k e id s i j : Nat} {n : Int} {K : AV → Prop} : ixQ (some k, e) (.ptr id s i j) n K = Ad (0 ≤ n ∧ n < k) (lock (K (.ptr id s i (j + n.toNat * e))) .mk) := ixQ_ptrA
theorem ldQ_rptrAL {l : Option Nat} {cs : List AV} {H : List (Option Blk)} {K : AV → Prop} : ldQ l (.rptr cs) H K = Ad (rdC l cs).1 (lock (K (rdC l cs).2) .mk) := ldQ_rptrA
theorem ldQ_ptrL {l : Option Nat} {id s i j : Nat} {H : List (Option Blk)} {K : AV → Prop} : ldQ l (.ptr id s i j) H K = blkQ H id (lock (fun b => ldB l s i j b K) .mk) := ldQ_ptr
theorem ldB_rowAL {l : Option Nat} {s j : Nat} {row : List AV} {K : AV → Prop} : ldB l s 0 j ⟨s, [row]⟩ K = Ad (rdC l (row.drop j)).1 (lock (K (rdC l (row.drop j)).2) .mk) := ldB_rowA
theorem ldB_rowsIAL {i : Nat} {a : List Int} {K : AV → Prop} : ldB none 1 i 0 ⟨1, rowsI a⟩ K = Ad (i < a.length) (lock (K (.int .i64 (a.getD i 0))) .mk) := ldB_rowsIA
theorem ldB_rowsBAL {i : Nat} {a : List Bool} {K : AV → Prop} : ldB none 1 i 0 ⟨1, rowsB a⟩ K = Ad (i < a.length) (lock (K (.bool (a.getD i false))) .mk) := ldB_rowsBA
theorem ldB_rowsIIAL {i : Nat} {a : List (List Int)} {K : AV → Prop} : ldB none 1 i 0 ⟨1, rowsII a⟩ K = Ad (i < a.length) (lock (K (.ro 1 (rowsI (a.getD i [])))) .mk) := ldB_rowsIIA
theorem ldB_rowsP0AL {i : Nat} {a : List (Int × Int)} {K : AV → Prop} : ldB none 2 i 0 ⟨2, rowsP a⟩ K = Ad (i < a.length) (lock (K (.int .i64 (a.getD i (0, 0)).1)) .mk) := ldB_rowsP0A
theorem ldB_rowsP1AL {i : Nat} {a : List (Int × Int)} {K : AV → Prop} : ldB none 2 i 1 ⟨2, rowsP a⟩ K = Ad (i < a.length) (lock (K (.int .i64 (a.getD i (0, 0)).2)) .mk) := ldB_rowsP1A
theorem stQ_ptrL {n id s i j : Nat} {cs : List AV} {H : List (Option Blk)} {K : List (Option Blk) → Prop} : stQ n (.ptr id s i j) cs H K = blkQ H id (lock (fun b => stB n s i j cs b (lock (fun b' => K (H.set id (some b'))) .mk)) .mk) := stQ_ptr
theorem stB_rowAL {n s j : Nat} {cs row : List AV} {K : Blk → Prop} : stB n s 0 j cs ⟨s, [row]⟩ K = Ad (cs.length = n ∧ j + n ≤ row.length) (lock (K ⟨s, [spl row j cs]⟩) .mk) := stB_rowA
theorem stB_rowsIAL {i : Nat} {a : List Int} {v : Int} {K : Blk → Prop} : stB 1 1 i 0 [.int .i64 v] ⟨1, rowsI a⟩ K = Ad (i < a.length) (lock (K ⟨1, rowsI (a.set i v)⟩) .mk) := stB_rowsIA
theorem stB_rowsBAL {i : Nat} {a : List Bool} {v : Bool} {K : Blk → Prop} : stB 1 1 i 0 [.bool v] ⟨1, rowsB a⟩ K = Ad (i < a.length) (lock (K ⟨1, rowsB (a.set i v)⟩) .mk) := stB_rowsBA
theorem stB_rowsIIAL {i : Nat} {a : List (List Int)} {v : List Int} {K : Blk → Prop} : stB 1 1 i 0 [.ro 1 (rowsI v)] ⟨1, rowsII a⟩ K = Ad (i < a.length) (lock (K ⟨1, rowsII (a.set i v)⟩) .mk) := stB_rowsIIA
theorem stB_rowsP1AL {i : Nat} {a : List (Int × Int)} {v : Int} {K : Blk → Prop} : stB 1 2 i 1 [.int .i64 v] ⟨2, rowsP a⟩ K = Ad (i < a.length) (lock (K ⟨2, rowsP (a.set i ((a.getD i (0, 0)).1, v))⟩) .mk) := stB_rowsP1A
theorem srcQ_slAL {es id s off len m : Nat} {H : List (Option Blk)} {K : List (List AV) → Prop} : srcQ es (.sl id s off len m) H K = blkQ H id (lock (fun b => Ad (b.s = s ∧ s = es) (lock (Ad (off + len ≤ b.rows.length) (lock (K ((b.rows.drop off).take len)) .mk)) .mk)) .mk) := srcQ_slA
theorem srcQ_roAL {es s : Nat} {rows : List (List AV)} {H : List (Option Blk)} {K : List (List AV) → Prop} : srcQ es (.ro s rows) H K = Ad (s = es ∨ rows = []) (lock (K rows) .mk) := srcQ_roA
theorem srcQ_nilsL {es : Nat} {H : List (Option Blk)} {K : List (List AV) → Prop} : srcQ es .nils H K = K [] := srcQ_nils
theorem appQ_nilsAL {es by_ : Nat} {H : List (Option Blk)} {slot : Nat} {news : List (List AV)} {K : AV → List (Option Blk) → List Nat → Prop} : appQ es by_ .nils H slot news K = Ad (news.length * by_ ≤ 140737488355328 ∧ news.length ≤ 140737488355328) (lock (Ad (H[slot]? = some none) (lock (K (.sl slot es 0 news.length news.length) (H.set slot (some ⟨es, news⟩)) []) .mk)) .mk) := appQ_nilsA
theorem appQ_slAL {es by_ id s off len m : Nat} {H : List (Option Blk)} {slot : Nat} {news : List (List AV)} {K : AV → List (Option Blk) → List Nat → Prop} : appQ es by_ (.sl id s off len m) H slot news K = blkQ H id (lock (fun b => appB s es by_ off len b news (lock (fun rows => Ad (H[slot]? = some none) (lock (K (.sl id es 0 (len + news.length) (len + news.length)) ((killH id H).set id (some ⟨es, killR id rows⟩)) [id]) .mk)) .mk)) .mk) := appQ_slA
theorem appBAL {s es by_ off len : Nat} {b : Blk} {news : List (List AV)} {K : List (List AV) → Prop} : appB s es by_ off len b news K = Ad (b.s = s ∧ s = es) (lock (Ad (off + len ≤ b.rows.length ∧ (len + news.length) * by_ ≤ 140737488355328 ∧ len + news.length ≤ 140737488355328) (lock (K ((b.rows.drop off).take len ++ news)) .mk)) .mk) := appBA
theorem slQ_slAL {es id s off len m : Nat} {lo : Int} {hi : Option Int} {K : AV → Prop} : slQ es (.sl id s off len m) lo hi none K = Ad (es = s) (lock (Ad (0 ≤ lo ∧ lo ≤ hi.getD len ∧ hi.getD len ≤ m) (lock (K (.sl id s (off + lo.toNat) (hi.getD len - lo).toNat (m - lo.toNat))) .mk)) .mk) := slQ_slA
theorem slQ_sl3AL {es id s off len m : Nat} {lo h k : Int} {K : AV → Prop} : slQ es (.sl id s off len m) lo (some h) (some k) K = Ad (es = s) (lock (Ad (0 ≤ lo ∧ lo ≤ h ∧ h ≤ k ∧ k ≤ m) (lock (K (.sl id s (off + lo.toNat) (h - lo).toNat (k - lo).toNat)) .mk)) .mk) := slQ_sl3A
theorem slQ_roAL {es s : Nat} {rows : List (List AV)} {lo : Int} {hi : Option Int} {K : AV → Prop} : slQ es (.ro s rows) lo hi none K = Ad (es = s) (lock (Ad (0 ≤ lo ∧ lo ≤ hi.getD rows.length ∧ hi.getD rows.length ≤ rows.length) (lock (K (.ro s ((rows.take (hi.getD rows.length).toNat).drop lo.toNat))) .mk)) .mk) := slQ_roA
theorem fillQ_consAL {place : Nat → Option (Nat × Nat)} {cells : List AV} {f : Nat} {v : AV} {rest : List (Nat × AV)} {K : List AV → Prop} : fillQ place cells ((f, v) :: rest) K = Ob (place f) (lock (fun p => Ob (cellsQ v) (lock (fun cs => Ad (cs.length = p.2 ∧ p.1 + p.2 ≤ cells.length) (lock (fillQ place (spl cells p.1 cs) rest K) .mk)) .mk)) .mk) := fillQ_consA
theorem fdQ_aggAL {l : Nat × Option Nat} {cs : List AV} {K : AV → Prop} : fdQ l (.agg cs) K = Ad (rdC l.2 (cs.drop l.1)).1 (lock (K (rdC l.2 (cs.drop l.1)).2) .mk) := fdQ_aggA
theorem unQ_negAL {k : IntKind} {n : Int} {K : AV → Prop} : unQ .neg (.int k n) K = Ad (arI k (0 - n)).1 (lock (K (arI k (0 - n)).2) .mk) := unQ_negA
theorem exQ_tupL {vs : List AV} {k : Nat} {K : AV → Prop} : exQ (.tup vs) k K = Ob vs[k]? K := exQ_tup
section rules
variable {cw : List Nat} {hmf : List (Option Blk) → List (Option Blk)} {i slot : Nat} {d : Option Tmp} {ty : TypeId} {pos : String} {aft : Array Edge} {gd : Option (Nat × Bool)} {st : St} {Q : St → Prop}
theorem doQ_moveL {x : Operand} {ut : Tag (⟨d, .move x, ty, pos, aft, gd⟩ : Oper)} : doQ P G cw hmf i slot (lock ⟨d, .move x, ty, pos, aft, gd⟩ ut) st Q = Ob (ev G st.T x) (lock (fun v => Q ⟨put st.T d v, st.H, st.M⟩) .mk) := doQ_move
theorem doQ_assignL {x : Operand} {ut : Tag (⟨d, .assign x, ty, pos, aft, gd⟩ : Oper)} : doQ P G cw hmf i slot (lock ⟨d, .assign x, ty, pos, aft, gd⟩ ut) st Q = Ob (ev G st.T x) (lock (fun v => Q ⟨put st.T d v, st.H, st.M⟩) .mk) := doQ_assign
theorem doQ_binOpAL {op : BinOp} {t u : TypeId} {x y : Operand} {ut : Tag (⟨d, .binOp op t x y u, ty, pos, aft, gd⟩ : Oper)} : doQ P G cw hmf i slot (lock ⟨d, .binOp op t x y u, ty, pos, aft, gd⟩ ut) st Q = Ob (ev G st.T x) (lock (fun a => Ob (ev G st.T y) (lock (fun b => Ob (binT P op t a b) (lock (fun p => Ad p.1 (lock (Q ⟨put st.T d p.2, st.H, st.M⟩) .mk)) .mk)) .mk)) .mk) := doQ_binOpA
theorem doQ_unOpVL {op : UnOp} {t : TypeId} {x : Operand} {ut : Tag (⟨d, .unOp op t x, ty, pos, aft, gd⟩ : Oper)} : doQ P G cw hmf i slot (lock ⟨d, .unOp op t x, ty, pos, aft, gd⟩ ut) st Q = Ob (ev G st.T x) (lock (fun a => unQ op a (lock (fun v => Q ⟨put st.T d v, st.H, st.M⟩) .mk)) .mk) := doQ_unOpV
theorem doQ_pickL {x y z : Operand} {ut : Tag (⟨d, .pick x y z, ty, pos, aft, gd⟩ : Oper)} : doQ P G cw hmf i slot (lock ⟨d, .pick x y z, ty, pos, aft, gd⟩ ut) st Q = Ob ((ev G st.T x).bind asB) (lock (fun b => Ob (ev G st.T y) (lock (fun a => Ob (ev G st.T z) (lock (fun c => Q ⟨put st.T d (pickA b a c), st.H, st.M⟩) .mk)) .mk)) .mk) := doQ_pick
theorem doQ_nilCheckVL {x : Operand} {ut : Tag (⟨d, .nilCheck x, ty, pos, aft, gd⟩ : Oper)} : doQ P G cw hmf i slot (lock ⟨d, .nilCheck x, ty, pos, aft, gd⟩ ut) st Q = Ob (ev G st.T x) (lock (fun a => nilQ a (lock (Q ⟨put st.T d a, st.H, st.M⟩) .mk)) .mk) := doQ_nilCheckV
theorem doQ_extractVL {x : Operand} {k : Nat} {ut : Tag (⟨d, .extract x k, ty, pos, aft, gd⟩ : Oper)} : doQ P G cw hmf i slot (lock ⟨d, .extract x k, ty, pos, aft, gd⟩ ut) st Q = Ob (ev G st.T x) (lock (fun a => exQ a k (lock (fun v => Q ⟨put st.T d v, st.H, st.M⟩) .mk)) .mk) := doQ_extractV
theorem doQ_convertL {s t : TypeId} {x : Operand} {ut : Tag (⟨d, .convert s t x, ty, pos, aft, gd⟩ : Oper)} : doQ P G cw hmf i slot (lock ⟨d, .convert s t x, ty, pos, aft, gd⟩ ut) st Q = Ob (ev G st.T x) (lock (fun a => Ob (evO P (lock (fun _ => some a) .mk) [] 0 (.convert s t (.tmp 0))) (lock (fun p => Q ⟨put st.T d p.2.1, st.H, st.M⟩) .mk)) .mk) := doQ_convert
theorem doQ_fieldAddrVL {s : TypeId} {x : Operand} {f : Nat} {ut : Tag (⟨d, .fieldAddr s x f, ty, pos, aft, gd⟩ : Oper)} : doQ P G cw hmf i slot (lock ⟨d, .fieldAddr s x f, ty, pos, aft, gd⟩ ut) st Q = Ob (flI P s f) (lock (fun l => Ob (ev G st.T x) (lock (fun a => faQ l.1 a (lock (fun v => Q ⟨put st.T d v, st.H, st.M⟩) .mk)) .mk)) .mk) := doQ_fieldAddrV
theorem doQ_fieldVL {s : TypeId} {x : Operand} {f : Nat} {ut : Tag (⟨d, .field s x f, ty, pos, aft, gd⟩ : Oper)} : doQ P G cw hmf i slot (lock ⟨d, .field s x f, ty, pos, aft, gd⟩ ut) st Q = Ob (flI P s f) (lock (fun l => Ob (ev G st.T x) (lock (fun a => fdQ l a (lock (fun v => Q ⟨put st.T d v, st.H, st.M⟩) .mk)) .mk)) .mk) := doQ_fieldV
theorem doQ_indexAddrL {t : TypeId} {x y : Operand} {ut : Tag (⟨d, .indexAddr t x y, ty, pos, aft, gd⟩ : Oper)} : doQ P G cw hmf i slot (lock ⟨d, .indexAddr t x y, ty, pos, aft, gd⟩ ut) st Q = Ob (ixI P t) (lock (fun l => Ob (ev G st.T x) (lock (fun a => Ob ((ev G st.T y).bind asI) (lock (fun n => ixQ l a n (lock (fun v => Q ⟨put st.T d v, st.H, st.M⟩) .mk)) .mk)) .mk)) .mk) := doQ_indexAddr
theorem doQ_loadL {t : TypeId} {x : Operand} {ut : Tag (⟨d, .load t x, ty, pos, aft, gd⟩ : Oper)} : doQ P G cw hmf i slot (lock ⟨d, .load t x, ty, pos, aft, gd⟩ ut) st Q = Ob (ldI P t) (lock (fun l => Ob (ev G st.T x) (lock (fun a => ldQ l a (hmf st.H) (lock (fun v => Q ⟨put st.T d v, st.H, st.M⟩) .mk)) .mk)) .mk) := doQ_load
theorem doQ_allocAL {t : TypeId} {ut : Tag (⟨d, .alloc t, ty, pos, aft, gd⟩ : Oper)} : doQ P G cw hmf i slot (lock ⟨d, .alloc t, ty, pos, aft, gd⟩ ut) st Q = Ob (zrI P t) (lock (fun z => Ad (st.H[slot]? = some none) (lock (Q ⟨put st.T d (.ptr slot z.length 0 0), st.H.set slot (some ⟨z.length, [z]⟩), st.M⟩) .mk)) .mk) := doQ_allocA
theorem doQ_boxAL {t : TypeId} {x : Operand} {ut : Tag (⟨d, .box t x, ty, pos, aft, gd⟩ : Oper)} : doQ P G cw hmf i slot (lock ⟨d, .box t x, ty, pos, aft, gd⟩ ut) st Q = Ob ((ev G st.T x).bind cellsQ) (lock (fun cs => Ad (st.H[slot]? = some none) (lock (Q ⟨put st.T d (.ptr slot cs.length 0 0), st.H.set slot (some ⟨cs.length, [cs]⟩), st.M⟩) .mk)) .mk) := doQ_boxA
theorem doQ_makeSliceAL {t : TypeId} {x y : Operand} {ut : Tag (⟨d, .makeSlice t x y, ty, pos, aft, gd⟩ : Oper)} : doQ P G cw hmf i slot (lock ⟨d, .makeSlice t x y, ty, pos, aft, gd⟩ ut) st Q = Ob (elI P t) (lock (fun e => Ob ((ev G st.T x).bind asI) (lock (fun l => Ob ((ev G st.T y).bind asI) (lock (fun c => Ad (0 < e.1) (lock (Ad (0 ≤ l ∧ l ≤ c ∧ e.2.1 * c ≤ 140737488355328 ∧ c ≤ 140737488355328) (lock (Ad (st.H[slot]? = some none) (lock (Q ⟨put st.T d (.sl slot e.1 0 l.toNat c.toNat), st.H.set slot (some ⟨e.1, List.replicate c.toNat e.2.2⟩), st.M⟩) .mk)) .mk)) .mk)) .mk)) .mk)) .mk) := doQ_makeSliceA
theorem doQ_buildSliceAL {t : TypeId} {n : Nat} {ps : Array (Nat × Operand)} {ut : Tag (⟨d, .buildSlice t n ps, ty, pos, aft, gd⟩ : Oper)} : doQ P G cw hmf i slot (lock ⟨d, .buildSlice t n ps, ty, pos, aft, gd⟩ ut) st Q = Ob (elI P t) (lock (fun e => Ob (partsL (ev G st.T) ps.toList) (lock (fun l => Ad (n * e.1 ≤ 1024 ∧ 0 < n ∧ 0 < e.1) (lock (fillQ (fun i => some (i * e.1, e.1)) (List.replicate n e.2.2).flatten l (lock (fun cs => Ad (st.H[slot]? = some none) (lock (Q ⟨put st.T d (.sl slot e.1 0 n n), st.H.set slot (some ⟨e.1, chunk e.1 n cs⟩), st.M⟩) .mk)) .mk)) .mk)) .mk)) .mk) := doQ_buildSliceA
theorem doQ_buildFL {cw : List Nat} {hmf : List (Option Blk) → List (Option Blk)} {i slot : Nat} {d : Option Tmp} {ty : TypeId} {pos : String} {aft : Array Edge} {gd : Option (Nat × Bool)} {st : St} {Q : St → Prop} {t : TypeId} {ps : Array (Nat × Operand)} (hb : blI P t = true) {ut : Tag (⟨d, .build t ps, ty, pos, aft, gd⟩ : Oper)} : doQ P G cw hmf i slot (lock ⟨d, .build t ps, ty, pos, aft, gd⟩ ut) st Q = Ob (zrI P t) (lock (fun z => Ob (partsL (ev G st.T) ps.toList) (lock (fun l => fillQ (fpI P t) z l (lock (fun cs => Q ⟨put st.T d (.agg cs), st.H, st.M⟩) .mk)) .mk)) .mk) := doQ_buildF hb
theorem doQ_sliceAL {t : TypeId} {x : Operand} {lo hi mx : Option Operand} (h : (ixI P t).isSome = true) {ut : Tag (⟨d, .slice t x lo hi mx, ty, pos, aft, gd⟩ : Oper)} : doQ P G cw hmf i slot (lock ⟨d, .slice t x lo hi mx, ty, pos, aft, gd⟩ ut) st Q = Ob (ixI P t) (lock (fun l => Ad (l.1 = none) (lock (Ob (ev G st.T x) (lock (fun a => Ob (bndQ (ev G st.T) lo) (lock (fun lo => Ob (bndQ (ev G st.T) hi) (lock (fun hi => Ob (bndQ (ev G st.T) mx) (lock (fun mx => slQ l.2 a (lo.getD 0) hi mx (lock (fun v => Q ⟨put st.T d v, st.H, st.M⟩) .mk)) .mk)) .mk)) .mk)) .mk)) .mk)) .mk) := doQ_sliceA h
theorem doQ_makeFuncL {f : FuncId} {cap : List Operand} {ut : Tag (⟨d, .makeFunc (.func f) #[] cap.toArray, ty, pos, aft, gd⟩ : Oper)} : doQ P G cw hmf i slot (lock ⟨d, .makeFunc (.func f) #[] cap.toArray, ty, pos, aft, gd⟩ ut) st Q = Ob (cap.mapM (ev G st.T)) (lock (fun vs => Q ⟨put st.T d (.fn f vs), st.H, st.M⟩) .mk) := doQ_makeFunc
theorem doQ_storeQL {t : TypeId} {x y : Operand} {ut : Tag (⟨d, .store t x y, ty, pos, aft, gd⟩ : Oper)} : doQ P G cw hmf i slot (lock ⟨d, .store t x y, ty, pos, aft, gd⟩ ut) st Q = Ob (szI P t) (lock (fun n => Ob (ev G st.T x) (lock (fun p => Ob ((ev G st.T y).bind cellsQ) (lock (fun cs => stQ n p cs st.H (lock (fun H' => Q ⟨put st.T d (.tup []), H', st.M⟩) .mk)) .mk)) .mk)) .mk) := doQ_storeQ
theorem doQ_appendAL {x y : Operand} {t : TypeId} {ut : Tag (⟨d, .call { callee := .builtin .append, args := #[x, y], argTypes := #[t, t] }, ty, pos, aft, gd⟩ : Oper)} : doQ P G cw hmf i slot (lock ⟨d, .call { callee := .builtin .append, args := #[x, y], argTypes := #[t, t] }, ty, pos, aft, gd⟩ ut) st Q = Ob (elI P t) (lock (fun e => Ad (0 < e.1) (lock (Ob (ev G st.T x) (lock (fun a => Ob (ev G st.T y) (lock (fun b => srcQ e.1 b st.H (lock (fun news => appQ e.1 e.2.1 a st.H slot news (lock (fun v H' Ks => Q ⟨put (killKT Ks st.T) d v, H', Ks ++ st.M⟩) .mk)) .mk)) .mk)) .mk)) .mk)) .mk) := doQ_appendA
theorem doQ_lenVL {x : Operand} {t : TypeId} {ut : Tag (⟨d, .call { callee := .builtin .len, args := #[x], argTypes := #[t] }, ty, pos, aft, gd⟩ : Oper)} : doQ P G cw hmf i slot (lock ⟨d, .call { callee := .builtin .len, args := #[x], argTypes := #[t] }, ty, pos, aft, gd⟩ ut) st Q = Ob (P.underlying t) (lock (fun u => Ob (ev G st.T x) (lock (fun a => lenQ u a (lock (fun n => Q ⟨put st.T d (.int .i64 n), st.H, st.M⟩) .mk)) .mk)) .mk) := doQ_lenV
theorem doQ_minVL {x y : Operand} {ts : Array TypeId} {ut : Tag (⟨d, .call { callee := .builtin .min, args := #[x, y], argTypes := ts }, ty, pos, aft, gd⟩ : Oper)} : doQ P G cw hmf i slot (lock ⟨d, .call { callee := .builtin .min, args := #[x, y], argTypes := ts }, ty, pos, aft, gd⟩ ut) st Q = Ob (ev G st.T x) (lock (fun a => Ob (ev G st.T y) (lock (fun b => mmQ a b (lock (fun k a b => Q ⟨put st.T d (.int k (if b < a then b else a)), st.H, st.M⟩) .mk)) .mk)) .mk) := doQ_minV
theorem doQ_maxVL {x y : Operand} {ts : Array TypeId} {ut : Tag (⟨d, .call { callee := .builtin .max, args := #[x, y], argTypes := ts }, ty, pos, aft, gd⟩ : Oper)} : doQ P G cw hmf i slot (lock ⟨d, .call { callee := .builtin .max, args := #[x, y], argTypes := ts }, ty, pos, aft, gd⟩ ut) st Q = Ob (ev G st.T x) (lock (fun a => Ob (ev G st.T y) (lock (fun b => mmQ a b (lock (fun k a b => Q ⟨put st.T d (.int k (if b > a then b else a)), st.H, st.M⟩) .mk)) .mk)) .mk) := doQ_maxV
theorem doQ_callL {x : Operand} {args : Array Operand} {tys : Array TypeId} {u : Tag (⟨d, .call { callee := .value x, args := args, argTypes := tys }, ty, pos, aft, gd⟩ : Oper)} : doQ P G cw hmf i slot (lock ⟨d, .call { callee := .value x, args := args, argTypes := tys }, ty, pos, aft, gd⟩ u) st Q = Ob (callA (ev G st.T) x args.toList) (lock (fun fa =>
      if cw.contains i then EffQ P G fa.1 fa.2 st.H (lock (fun v H' Ks => Q ⟨put (killKT Ks st.T) d v, H', Ks ++ st.M⟩) .mk)
      else PureQ P G fa.1 fa.2 (hmf st.H) (lock (fun v => Q ⟨put st.T d v, st.H, st.M⟩) .mk)) .mk) := rfl
end rules
section runs
variable {ops : Array Oper} {cw : List Nat} {hmf : List (Option Blk) → List (Option Blk)} {i slot : Nat} {d : Option Tmp} {ty : TypeId} {pos : String} {aft : Array Edge} {st : St} {Q : St → Prop}
theorem runQ_nilL {u : Tag ([] : List Oper)} : runQ P G ops cw hmf i slot (lock [] u) st Q = Q st := rfl
theorem runQ_consL {op : Op} {os : List Oper} {u : Tag (⟨d, op, ty, pos, aft, none⟩ :: os : List Oper)} : runQ P G ops cw hmf i slot (lock (⟨d, op, ty, pos, aft, none⟩ :: os) u) st Q = doQ P G cw hmf i slot (lock ⟨d, op, ty, pos, aft, none⟩ .mk) st (lock (fun st' => runQ P G ops cw hmf (i + 1) (bif isAl op then slot + 1 else slot) (lock os .mk) st' Q) .mk) := runQ_cons
theorem runQ_gdL {op : Op} {os : List Oper} {j : Nat} {b : Bool} {u : Tag (⟨d, op, ty, pos, aft, some (j, b)⟩ :: os : List Oper)} : runQ P G ops cw hmf i slot (lock (⟨d, op, ty, pos, aft, some (j, b)⟩ :: os) u) st Q = Ob (dstAt ops j) (lock (fun t => Ob (st.T t) (lock (fun v =>
    guardQ v b (lock (doQ P G cw hmf i slot (lock ⟨d, op, ty, pos, aft, some (j, b)⟩ .mk) ⟨put st.T (some t) (.bool b), st.H, st.M⟩ (lock (fun st' => runQ P G ops cw hmf (i + 1) (bif isAl op then slot + 1 else slot) (lock os .mk) st' Q) .mk)) .mk)
      (lock (runQ P G ops cw hmf (i + 1) (bif isAl op then slot + 1 else slot) (lock os .mk) ⟨put (put st.T (some t) (.bool !b)) d (.tup []), st.H, st.M⟩ Q) .mk)
      (lock (runQ P G ops cw hmf (i + 1) (bif isAl op then slot + 1 else slot) (lock os .mk) ⟨put st.T d (.tup []), st.H, st.M⟩ Q) .mk)) .mk)) .mk) := runQ_gd
end runs
theorem dstAt_L (l : List Oper) (u : Tag l.toArray) (j : Nat) : dstAt (lock l.toArray u) j = l[j]?.bind (·.dst) := by simp [dstAt, lock]
section codes
variable {Q : Exit → St → Prop} {st : St}
theorem wpC_skipL {u : Tag Code.skip} : wpC P G N cs (lock .skip u) Q st = Q .normal st := rfl
theorem wpC_exitL {i : Nat} {u : Tag (Code.exit i)} : wpC P G N cs (lock (.exit i) u) Q st = Q (.exit i) st := rfl
theorem wpC_gotoL {i : Nat} {u : Tag (Code.goto i)} : wpC P G N cs (lock (.goto i) u) Q st = Q (.goto i) st := rfl
theorem wpC_retL {u : Tag Code.ret} : wpC P G N cs (lock .ret u) Q st = Q .ret st := rfl
theorem wpC_labelL {i : Nat} {u : Tag (Code.label i)} : wpC P G N cs (lock (.label i) u) Q st = Q .normal st := rfl
theorem wpC_seqL {a b : Code} {u : Tag (Code.seq a b)} : wpC P G N cs (lock (.seq a b) u) Q st = wpC P G N cs (lock a .mk) (lock (thenQ (lock (wpC P G N cs (lock b .mk) Q) .mk) Q) .mk) st := rfl
theorem wpC_condL {c : Operand} {a b : Code} {u : Tag (Code.cond c a b)} : wpC P G N cs (lock (.cond c a b) u) Q st = Ob ((ev G st.T c).bind asB) (lock (fun v => ifQ v (lock (wpC P G N cs (lock a .mk) Q st) .mk) (lock (wpC P G N cs (lock b .mk) Q st) .mk)) .mk) := rfl
theorem wpC_blockL {i : Nat} {a : Code} {u : Tag (Code.block i a)} : wpC P G N cs (lock (.block i a) u) Q st = wpC P G N cs (lock a .mk) (lock (blockQ i Q) .mk) st := rfl
theorem wpC_regionL {id : Nat} {l : List Oper} {draw : Bool} {u : Tag (Code.region id l.toArray draw)} : wpC P G N cs (lock (.region id l.toArray draw) u) Q st = runQ P G (lock l.toArray .mk) (cwGet cs id) (hmfC (draw && alGet cs id != 0) st.H.length) 0 st.H.length (lock l .mk) ⟨st.T, st.H ++ List.replicate (alGet cs id) none, st.M⟩ (lock (Q .normal) .mk) := rfl
theorem wpC_loopL {a : Code} {u : Tag (Code.loop a)} : wpC P G N cs (lock (.loop a) u) Q st = AWP P G N (.loop a) Q st := rfl
theorem wpC.soundL {c : Code} (hm : P.follows .mixedOrders = true) (hc : chkC N cs c = true) (h : wpC P G N cs (lock c .mk) (lock Q .mk) st) : AWP P G N c Q st := wpC.sound hm hc h
theorem EndQ_retL {rs : List ResultVar} {K : AV → St → Prop} {s : St} : EndQ P G rs K .ret s = retL P G s.T s.H rs (lock (fun vs => K (retV vs) s) .mk) := rfl
theorem EndQ_normalL {rs : List ResultVar} {K : AV → St → Prop} {s : St} : EndQ P G rs K .normal s = retL P G s.T s.H rs (lock (fun vs => K (retV vs) s) .mk) := rfl
theorem retL_tmpL {T : Nat → Option AV} {H : List (Option Blk)} {t : Nat} {rs : List ResultVar} {K : List AV → Prop} : retL P G T H (.tmp t :: rs) K = Ob (T t) (lock (fun v => retL P G T H rs (lock (fun vs => K (v :: vs)) .mk)) .mk) := rfl
end codes
end
end Go.Aw

/- For the proofs: calls as they are computed; what is nil taken as one's own; what is forgotten. -/
set_option linter.unusedVariables false
set_option linter.unusedSimpArgs false
namespace Go.Aw
open Go

section
variable {P : Program} {G : Glob} {N : Nat}

def argsQ (ρ : Operand → Option AV) : List Operand → (List AV → Prop) → Prop
  | [], K => K []
  | x :: xs, K => Ob (ρ x) fun v => argsQ ρ xs fun vs => K (v :: vs)
theorem argsQ_mapM {ρ : Operand → Option AV} : ∀ {xs : List Operand} {K : List AV → Prop}, Ob (xs.mapM ρ) K = argsQ ρ xs K
  | [], K => by simp [Ob, argsQ]
  | x :: xs, K => by
    simp only [List.mapM_cons, argsQ, ← argsQ_mapM]
    cases ρ x with
    | none => simp [Ob]
    | some v => cases xs.mapM ρ <;> simp [Ob]
theorem argsQ_nil {ρ : Operand → Option AV} {K : List AV → Prop} : argsQ ρ [] K = K [] := rfl
theorem argsQ_cons {ρ : Operand → Option AV} {x : Operand} {xs : List Operand} {K : List AV → Prop} {u : Tag K} : argsQ ρ (x :: xs) (lock K u) = Ob (ρ x) (lock (fun v => argsQ ρ xs (lock (fun vs => K (v :: vs)) .mk)) .mk) := rfl
@[congr] theorem argsQ_congr {ρ : Operand → Option AV} {xs : List Operand} {K : List AV → Prop} : argsQ ρ xs K = argsQ ρ xs K := rfl
def fnQ (a : AV) (K : FuncId → List AV → Prop) : Prop := match a with
  | .fn f cap => K f cap
  | _ => False
@[congr] theorem fnQ_congr {a a' : AV} {K : FuncId → List AV → Prop} (h : a = a') : fnQ a K = fnQ a' K := by rw [h]
theorem fnQ_fn {f : FuncId} {cap : List AV} {K : FuncId → List AV → Prop} {u : Tag K} : fnQ (.fn f cap) (lock K u) = K f cap := rfl
def selQ (b : Bool) (A B : Prop) : Prop := bif b then A else B
@[congr] theorem selQ_congr {b b' : Bool} {A B : Prop} (h : b = b') : selQ b A B = selQ b' A B := by rw [h]
theorem selQ_true {A B : Prop} {u : Tag A} : selQ true (lock A u) B = A := rfl
theorem selQ_false {A B : Prop} {u : Tag B} : selQ false A (lock B u) = B := rfl
theorem ev_func (T : Nat → Option AV) (f : FuncId) : ev G T (.func f) = some (.fn f []) := rfl

section rules
variable {cw : List Nat} {hmf : List (Option Blk) → List (Option Blk)} {i slot : Nat} {d : Option Tmp} {ty : TypeId} {pos : String} {aft : Array Edge} {gd : Option (Nat × Bool)} {st : St} {Q : St → Prop}
theorem doQ_callA {x : Operand} {args : List Operand} {tys : Array TypeId} {ut : Tag (⟨d, .call { callee := .value x, args := args.toArray, argTypes := tys }, ty, pos, aft, gd⟩ : Oper)} :
    doQ P G cw hmf i slot (lock ⟨d, .call { callee := .value x, args := args.toArray, argTypes := tys }, ty, pos, aft, gd⟩ ut) st Q = Ob (ev G st.T x) (lock (fun a => fnQ a (lock (fun f cap => argsQ (ev G st.T) args (lock (fun as =>
      selQ (cw.contains i) (lock (EffQ P G f (as ++ cap) st.H (lock (fun v H' Ks => Q ⟨put (killKT Ks st.T) d v, H', Ks ++ st.M⟩) .mk)) .mk)
        (lock (PureQ P G f (as ++ cap) (hmf st.H) (lock (fun v => Q ⟨put st.T d v, st.H, st.M⟩) .mk)) .mk)) .mk)) .mk)) .mk) := by
  have e : doQ P G cw hmf i slot (lock ⟨d, .call { callee := .value x, args := args.toArray, argTypes := tys }, ty, pos, aft, gd⟩ ut) st Q = Ob (callA (ev G st.T) x args) fun fa =>
      if cw.contains i then EffQ P G fa.1 fa.2 st.H (fun v H' Ks => Q ⟨put (killKT Ks st.T) d v, H', Ks ++ st.M⟩)
      else PureQ P G fa.1 fa.2 (hmf st.H) (fun v => Q ⟨put st.T d v, st.H, st.M⟩) := rfl
  rw [e]
  simp only [callA, lock]
  cases ev G st.T x with
  | none => rfl
  | some a =>
    cases a with
    | fn f cap =>
      show Ob ((args.mapM (ev G st.T)).map _) _ = argsQ (ev G st.T) args _
      rw [← argsQ_mapM]
      cases args.mapM (ev G st.T) with
      | none => rfl
      | some as => simp only [Option.map_some, Ob_some, selQ]; cases cw.contains i <;> rfl
    | _ => rfl
end rules

theorem retL_cellL {T : Nat → Option AV} {H : List (Option Blk)} {a : Nat} {t : TypeId} {rs : List ResultVar} {K : List AV → Prop} : retL P G T H (.cell a t :: rs) K = Ob (ldI P t) (lock (fun l => Ob (T a) (lock (fun p => ldQ l p H (lock (fun v => retL P G T H rs (lock (fun vs => K (v :: vs)) .mk)) .mk)) .mk)) .mk) := by
  simp only [retL, evO, ev_tmp, lock]
  cases ldI P t with
  | none => simp [Ob]
  | some l => cases T a with
    | none => simp [Ob]
    | some p =>
      cases p <;> simp [Ob, ldQ]
      rename_i id s i j
      cases H[id]? with
      | none => simp
      | some b => cases b with
        | none => simp
        | some b => by_cases h : b.s = s <;> simp [h, and_assoc]

theorem PureQ.callL {f : FuncId} {args : List AV} {Hm : List (Option Blk)} {K : AV → Prop} {u : Tag K} {v : AV} (hp : PCall P G f args v) (k : K v) (hr : refsL args = [] := by rfl) : PureQ P G f args Hm (lock K u) := ⟨v, .inl ⟨hr, hp⟩, k⟩
theorem PureQ.viewL {f : FuncId} {args args' : List AV} {Hm : List (Option Blk)} {K : AV → Prop} {u : Tag K} {v : AV} (hp : PCall P G f args' v) (hv : ViewL Hm args args') (k : K v) (hpl : plainR v = true := by rfl) : PureQ P G f args Hm (lock K u) := ⟨v, .inr ⟨args', hv, hp, hpl⟩, k⟩
theorem EffQ.callL {f : FuncId} {args : List AV} {H H' : List (Option Blk)} {K : AV → List (Option Blk) → List Nat → Prop} {u : Tag K} {v : AV} {Ks : List Nat} (h : ECall P G f args H v H' Ks) (k : K v H' Ks) : EffQ P G f args H (lock K u) := ⟨v, H', Ks, h, k⟩

/-- The code behind is held shut while a part is walked. -/
theorem wpC_cut {cs : CwOf} {a b : Code} {Q : Exit → St → Prop} {st : St} {u : Tag (Code.seq a b)} (h : ∀ K : Exit → St → Prop, K = lock (thenQ (lock (wpC P G N cs (lock b .mk) Q) .mk) Q) .mk → wpC P G N cs (lock a .mk) K st) : wpC P G N cs (lock (.seq a b) u) Q st := h _ rfl

/-- The heap spelt otherwise; slots forgotten. -/
theorem Imp.to {T : Nat → Option AV} {H H' : List (Option Blk)} {M M' : List Nat} {l : List (Nat × AV)} (h : ∀ p ∈ l, T p.1 = some p.2) (hH : H = H') (hM : ∀ id, id ∈ M → id ∈ M') : Imp G N ⟨T, H, M⟩ ⟨tab l, H', M'⟩ := by
  subst hH; exact Imp.slots h hM

theorem tab_first {l : List (Nat × AV)} {t : Nat} {v : AV} (h : tab l t = some v) : ∃ p ∈ l, p.1 = t ∧ p.2 = v := by
  induction l with
  | nil => cases h
  | cons p l ih =>
    simp only [tab] at h
    split at h
    · rename_i e; cases h; exact ⟨p, List.mem_cons_self .., e.symm, rfl⟩
    · obtain ⟨q, h1, h2⟩ := ih h; exact ⟨q, List.mem_cons_of_mem _ h1, h2⟩

/-- A nil slice is taken as one's own of no element, at the heap's end. -/
theorem Imp.virtA {T : Nat → Option AV} {H : List (Option Blk)} {M : List Nat} {l : List (Nat × AV)} (slot es : Nat) (hsl : H.length = slot) (h : ∀ p ∈ l, T p.1 = some p.2 ∨ (T p.1 = some .nils ∧ p.2 = .sl slot es 0 0 0)) : Imp G N ⟨T, H, M⟩ ⟨tab l, H ++ [some ⟨es, []⟩], M⟩ := by
  subst hsl
  refine Imp.virt (slot := H.length) (es := es) (.inl (by simp)) (by simp) (fun t v hv => ?_) (fun id b' hne hb' => ?_) (fun id b hb => ?_) rfl
  · obtain ⟨p, hp, rfl, rfl⟩ := tab_first hv
    rcases h p hp with h1 | ⟨h1, h2⟩
    · exact ⟨_, h1, .inl rfl⟩
    · exact ⟨_, h1, .inr ⟨rfl, h2⟩⟩
  · have hb : H[id]? = some (some b') := by
      have hlt := (List.getElem?_eq_some_iff.1 hb').1
      simp only [List.length_append, List.length_cons, List.length_nil] at hlt
      rw [List.getElem?_append_left (by omega)] at hb'
      exact hb'
    exact ⟨b', hb, rfl, rfl, fun i row row' h1 h2 => by rw [h1] at h2; cases h2; exact ⟨rfl, fun j c c' h3 h4 => by rw [h3] at h4; cases h4; exact .inl rfl⟩⟩
  · exact ⟨b, by rw [List.getElem?_append_left (List.getElem?_eq_some_iff.1 hb).1]; exact hb⟩

/-- The last blocks are forgotten. -/
theorem Imp.dropTail {T : Nat → Option AV} {H0 H X : List (Option Blk)} {M M' : List Nat} {l : List (Nat × AV)} (e : H0 = H ++ X) (hT : ∀ p ∈ l, T p.1 = some p.2) (hTr : ∀ p ∈ l, ∀ id ∈ refs p.2, liveB H id = true)
    (hHr : ∀ b, some b ∈ H → ∀ row ∈ b.rows, ∀ id ∈ refsL row, liveB H id = true) (hM : ∀ id, id ∈ M → id ∈ M') (hX : ∀ j, j < X.length → H.length + j ∈ M') : Imp G N ⟨T, H0, M⟩ ⟨tab l, H, M'⟩ := by
  subst e
  refine Imp.drop (fun t v hv => ?_) (fun id b hb => ?_) (fun t v hv id hid => ?_) (fun id b hb row hrow id' hid' => ?_) hM fun id hid => ?_
  · obtain ⟨p, hp, rfl, rfl⟩ := tab_first hv; exact hT p hp
  · show (H ++ X)[id]? = _
    rw [List.getElem?_append_left (List.getElem?_eq_some_iff.1 hb).1]; exact hb
  · obtain ⟨p, hp, rfl, rfl⟩ := tab_first hv; exact hTr p hp id hid
  · exact hHr b (List.mem_of_getElem? hb) row hrow id' hid'
  · by_cases h : id < H.length
    · left
      unfold liveB at hid ⊢
      simp only [List.getElem?_append_left h] at hid
      exact hid
    · right
      have hlt : id < (H ++ X).length := by
        unfold liveB at hid
        split at hid
        · rename_i b hb; exact (List.getElem?_eq_some_iff.1 hb).1
        · cases hid
      have := hX (id - H.length) (by rw [List.length_append] at hlt; omega)
      rwa [show H.length + (id - H.length) = id by omega] at this

/-- Less is said of a value. -/
inductive Wv : AV → AV → Prop
  | refl (c) : Wv c c
  | cap (id s off len m m' : Nat) (h1 : len ≤ m') (h2 : m' ≤ m) : Wv (.sl id s off len m) (.sl id s off len m')
  | nilro (s : Nat) : Wv .nils (.ro s [])
  | virt (id s off : Nat) : Wv .nils (.sl id s off 0 0)
  | junk (c) : Wv c .junk
theorem Wv.rel {w : World} {ι : Imap} {F : Nat → Prop} {c c' : AV} {v : Value} (h : Wv c c') (hv : VR w ι F c v) : VR w ι F c' v := by
  cases h with
  | refl => exact hv
  | cap id s off len m m' h1 h2 =>
    rcases hv.sl_ with ⟨oa, rfl, rfl, rfl⟩ | ⟨cap, g, base, n, e, a1, a2, a3, a4, a5, rfl⟩
    · obtain rfl : m' = 0 := by omega
      exact .sl0 id s off oa
    · exact .sl id s off len m' cap g base n e a1 a2 h1 ⟨by omega, by omega⟩ a5
  | nilro s =>
    obtain ⟨oa, rfl⟩ := hv.nils_
    exact .fr (.ro s [] oa 0 (fun _ _ => default) (by simp) (by simp) (by simp) (by simp))
  | virt id s off =>
    obtain ⟨oa, rfl⟩ := hv.nils_
    exact .sl0 id s off oa
  | junk => exact .fr (.junk v)
theorem Wv.eq {c c' : AV} (h : c = c') : Wv c c' := h ▸ .refl c
def RW (row row' : List AV) : Prop := row'.length = row.length ∧ ∀ (j : Nat) (c c' : AV), row[j]? = some c → row'[j]? = some c' → Wv c c'
theorem RW.refl (row : List AV) : RW row row := ⟨rfl, fun j c c' h1 h2 => by rw [h1] at h2; cases h2; exact .refl c⟩
theorem RW.nil : RW [] [] := .refl _
theorem RW.cons {c c' : AV} {l l' : List AV} (h : Wv c c') (k : RW l l') : RW (c :: l) (c' :: l') := ⟨by simp [k.1], fun j d d' h1 h2 => by
  cases j with
  | zero => simp at h1 h2; subst h1; subst h2; exact h
  | succ j => exact k.2 j d d' (by simpa using h1) (by simpa using h2)⟩
/-- Of a block: fewer rows, less said of each. -/
def BW : Option Blk → Option Blk → Prop
  | none, none => True
  | none, some b' => b'.rows = []
  | some b, some b' => b'.s = b.s ∧ b'.rows.length ≤ b.rows.length ∧ ∀ (i : Nat) (row row' : List AV), b.rows[i]? = some row → b'.rows[i]? = some row' → RW row row'
  | _, _ => False
theorem BW.refl : ∀ o : Option Blk, BW o o
  | none => trivial
  | some b => ⟨rfl, Nat.le_refl _, fun i row row' h1 h2 => by rw [h1] at h2; cases h2; exact .refl row⟩
theorem BW.eq {o o' : Option Blk} (h : o = o') : BW o o' := h ▸ .refl o
theorem BW.rows {s : Nat} {rows rows' : List (List AV)} (h : rows = rows') : BW (some ⟨s, rows⟩) (some ⟨s, rows'⟩) := h ▸ .refl _
theorem BW.one {s : Nat} {row row' : List AV} (h : RW row row') : BW (some ⟨s, [row]⟩) (some ⟨s, [row']⟩) := ⟨rfl, Nat.le_refl _, fun i r r' h1 h2 => by
  cases i with
  | zero => simp at h1 h2; subst h1; subst h2; exact h
  | succ i => simp at h1⟩
theorem BW.pre {s : Nat} {rows rows' : List (List AV)} {k : Nat} (h : rows' = rows.take k) : BW (some ⟨s, rows⟩) (some ⟨s, rows'⟩) := ⟨rfl, by simp only [h, List.length_take]; omega, fun i row row' h1 h2 => by
  simp only [h, List.getElem?_take] at h1 h2
  split at h2
  · rw [h1] at h2; cases h2; exact .refl row
  · cases h2⟩
theorem BW.rep {n s t : Nat} : BW (some ⟨t, List.replicate n [AV.nils]⟩) (some ⟨t, List.replicate n [AV.ro s []]⟩) := ⟨rfl, by simp, fun i row row' h h' => by
  simp only [List.getElem?_replicate] at h h'
  split at h
  · rename_i hi
    rw [if_pos hi] at h'
    cases h; cases h'
    exact .cons (.nilro s) .nil
  · cases h⟩
def HX : List (Option Blk) → Prop
  | [] => True
  | x :: xs => x = none ∧ HX xs
def HN : List (Option Blk) → Prop
  | [] => True
  | y :: ys => BW none y ∧ HN ys
def HW : List (Option Blk) → List (Option Blk) → Prop
  | [], ys => HN ys
  | x :: xs, [] => HX (x :: xs)
  | x :: xs, y :: ys => BW x y ∧ HW xs ys
theorem HW.refl : ∀ H : List (Option Blk), HW H H
  | [] => trivial
  | x :: xs => ⟨.refl x, .refl xs⟩
theorem HW.eq {H H' : List (Option Blk)} (h : H = H') : HW H H' := h ▸ .refl H
theorem HN.get : ∀ {H' : List (Option Blk)} {id : Nat} {b' : Blk}, HN H' → H'[id]? = some (some b') → b'.rows = []
  | [], _, _, _, h => by simp at h
  | y :: ys, 0, b', h, hb => by
    simp only [List.getElem?_cons_zero, Option.some.injEq] at hb
    subst hb
    exact h.1
  | y :: ys, id + 1, b', h, hb => HN.get (H' := ys) h.2 (by simpa using hb)
theorem HX.none : ∀ {H : List (Option Blk)} {id : Nat} {b : Blk}, HX H → H[id]? = some (some b) → False
  | [], _, _, _, h => by simp at h
  | x :: xs, 0, b, h, hb => by simp [h.1] at hb
  | x :: xs, id + 1, b, h, hb => HX.none (H := xs) (id := id) (b := b) h.2 (by simpa using hb)
theorem HW.get : ∀ {H H' : List (Option Blk)} {id : Nat} {b' : Blk}, HW H H' → H'[id]? = some (some b') → (∃ b, H[id]? = some (some b) ∧ BW (some b) (some b')) ∨ (b'.rows = [] ∧ ∀ b, H[id]? ≠ some (some b))
  | [], H', id, b', h, hb => .inr ⟨HN.get (H' := H') h hb, by simp⟩
  | x :: xs, y :: ys, 0, b', h, hb => by
    simp only [List.getElem?_cons_zero, Option.some.injEq] at hb
    subst hb
    have := h.1
    cases x with
    | none => exact .inr ⟨this, by simp⟩
    | some b => exact .inl ⟨b, rfl, this⟩
  | x :: xs, y :: ys, id + 1, b', h, hb => HW.get (H := xs) (H' := ys) h.2 (by simpa using hb)
  | x :: xs, [], _, _, _, h => by simp at h
theorem HW.live : ∀ {H H' : List (Option Blk)} {id : Nat} {b : Blk}, HW H H' → H[id]? = some (some b) → ∃ b', H'[id]? = some (some b')
  | [], _, _, _, _, h => by simp at h
  | x :: xs, y :: ys, 0, b, h, hb => by
    simp only [List.getElem?_cons_zero, Option.some.injEq] at hb
    subst hb
    have := h.1
    cases y with
    | none => exact this.elim
    | some b => exact ⟨b, rfl⟩
  | x :: xs, y :: ys, id + 1, b, h, hb => HW.live (H := xs) (H' := ys) h.2 (by simpa using hb)
  | x :: xs, [], id, b, h, hb => (HX.none (H := x :: xs) h hb).elim
theorem RelL.less {w : World} {ι : Imap} {F : Nat → Prop} {H H' : List (Option Blk)} (h : RelL w ι F H) (hw : HW H H') : RelL w ι F H' ∧ (∀ g, fp ι H' g ↔ fp ι H g) := by
  have hget : ∀ {id : Nat} {b' : Blk} {x : Nat × Nat}, H'[id]? = some (some b') → ι id = some x → ∃ b, H[id]? = some (some b) ∧ BW (some b) (some b') := fun {id b' x} h1 h2 => by
    rcases hw.get h1 with h3 | ⟨_, h3⟩
    · exact h3
    · obtain ⟨b, hb⟩ := h.dom id x h2
      exact absurd hb (h3 b)
  have hf : ∀ g, fp ι H' g ↔ fp ι H g := fun g => ⟨fun ⟨id, b, x, h1, h2⟩ => by obtain ⟨c, hc, _⟩ := hget h1 h2; exact ⟨id, c, x, hc, h2⟩, fun ⟨id, b, x, h1, h2⟩ => by obtain ⟨c, hc⟩ := hw.live h1; exact ⟨id, c, x, hc, h2⟩⟩
  refine ⟨⟨⟨fun id b' hb' => ?_, fun id id' b b' g x g' x' h1 h2 h3 h4 => ?_, fun id b g x h1 h2 => ?_, h.fz⟩, fun id x hx => ?_⟩, hf⟩
  · rcases hw.get hb' with ⟨b, hb, he, hlen, hrows⟩ | ⟨h0, hno⟩
    rotate_left
    · refine ⟨fun i row hi => by rw [h0] at hi; simp at hi, fun _ => h0, fun g base hg => ?_⟩
      obtain ⟨b, hb⟩ := h.dom id _ hg
      exact absurd hb (hno b)
    obtain ⟨h1, h2, h3⟩ := h.blk id b hb
    have hget : ∀ (i : Nat) (row' : List AV), b'.rows[i]? = some row' → ∃ row, b.rows[i]? = some row ∧ RW row row' := fun i row' hi => by
      have hl := (List.getElem?_eq_some_iff.1 hi).1
      have hr : b.rows[i]? = some b.rows[i] := List.getElem?_eq_getElem (by omega)
      exact ⟨_, hr, hrows i _ row' hr hi⟩
    refine ⟨fun i row' hi => ?_, fun h0 => List.eq_nil_of_length_eq_zero (by have := h2 h0; rw [this] at hlen; simpa using hlen), fun g base hg => ?_⟩
    · obtain ⟨row, hrow, hrw⟩ := hget i row' hi
      rw [hrw.1, he]
      exact h1 i row hrow
    · obtain ⟨cs, e, vals, h4, h5, h6, h7⟩ := h3 g base hg
      refine ⟨cs, e, vals, h4, by rw [he]; exact Nat.le_trans (Nat.add_le_add_left (Nat.mul_le_mul_right _ hlen) _) h5, fun i j hi hj => by rw [he] at hj ⊢; exact h6 i j (by omega) hj, fun i row' j c' hi hc => ?_⟩
      obtain ⟨row, hrow, hl2, hc2⟩ := hget i row' hi
      obtain ⟨c, hc0⟩ := get_len hl2 hc
      exact (hc2 j c c' hc0 hc).rel (h7 i row j c hrow hc0)
  · obtain ⟨c, hc, _⟩ := hget h1 h3
    obtain ⟨c', hc', _⟩ := hget h2 h4
    exact h.inj id id' c c' g x g' x' hc hc' h3 h4
  · obtain ⟨c, hc, _⟩ := hget h1 h2
    exact h.apart id c g x hc h2
  · obtain ⟨b, hb⟩ := h.dom id x hx
    exact hw.live hb
theorem Ext.less {ι ι' : Imap} {F F' : Nat → Prop} {H H1 H2 : List (Option Blk)} {w w' : World} (h : Ext ι H F w ι' H1 F' w') (hf : ∀ g, fp ι' H2 g ↔ fp ι' H1 g) : Ext ι H F w ι' H2 F' w' :=
  ⟨h.size, h.keep, h.shape, h.os, h.tape, h.output, h.mono, h.newF, fun g hg => h.newH g ((hf g).1 hg)⟩
/-- Slots of which less is said. -/
def TW (T : Nat → Option AV) : List (Nat × AV) → Prop
  | [] => True
  | p :: l => (∃ c, T p.1 = some c ∧ Wv c p.2) ∧ TW T l
theorem TW.get {T : Nat → Option AV} : ∀ {l : List (Nat × AV)}, TW T l → ∀ p ∈ l, ∃ c, T p.1 = some c ∧ Wv c p.2
  | [], _, p, hp => by simp at hp
  | q :: l, h, p, hp => by
    rcases List.mem_cons.1 hp with rfl | hp
    · exact h.1
    · exact TW.get h.2 p hp
theorem TW.at {T : Nat → Option AV} {k : Nat} {v : AV} {l : List (Nat × AV)} (h : T k = some v) (k2 : TW T l) : TW T ((k, v) :: l) := ⟨⟨v, h, .refl v⟩, k2⟩
theorem Imp.gen {T : Nat → Option AV} {H H' : List (Option Blk)} {M M' : List Nat} {l : List (Nat × AV)} (hT : TW T l) (hH : HW H H') (hM : ∀ id, id ∈ M → id ∈ M') : Imp G N ⟨T, H, M⟩ ⟨tab l, H', M'⟩ := fun ι F a w hr => by
  obtain ⟨h1, h2⟩ := hr.h.less hH
  refine ⟨ι, F, ⟨fun t v hv => ?_, h1, hr.g, hr.n, hr.d⟩, ⟨(Ext.refl _ _ _ _).less h2, fun c x hc hx => hx, hM⟩⟩
  obtain ⟨p, hp, rfl, rfl⟩ := tab_first hv
  obtain ⟨c, hc, hw⟩ := hT.get p hp
  obtain ⟨u, hu, hur⟩ := hr.t _ c hc
  exact ⟨u, hu, hw.rel hur⟩

/-- .. and the last blocks are forgotten. -/
theorem Imp.cut {T : Nat → Option AV} {H H' X : List (Option Blk)} {M M' : List Nat} {l : List (Nat × AV)} (hT : TW T l) (hH : HW H (H' ++ X)) (hTr : ∀ p ∈ l, ∀ id ∈ refs p.2, liveB H' id = true)
    (hHr : ∀ b, some b ∈ H' → ∀ row ∈ b.rows, ∀ id ∈ refsL row, liveB H' id = true) (hM : ∀ id, id ∈ M → id ∈ M') (hX : ∀ j, j < X.length → H'.length + j ∈ M') : Imp G N ⟨T, H, M⟩ ⟨tab l, H', M'⟩ := by
  refine (Imp.gen hT hH hM).trans (Imp.drop (fun t v hv => hv) (fun id b hb => ?_) (fun t v hv id hid => ?_) (fun id b hb row hrow id' hid' => ?_) (fun _ h => h) fun id hid => ?_)
  · show (H' ++ X)[id]? = _
    rw [List.getElem?_append_left (List.getElem?_eq_some_iff.1 hb).1]; exact hb
  · obtain ⟨p, hp, rfl, rfl⟩ := tab_first hv; exact hTr p hp id hid
  · exact hHr b (List.mem_of_getElem? hb) row hrow id' hid'
  · by_cases h : id < H'.length
    · left
      unfold liveB at hid ⊢
      simp only [List.getElem?_append_left h] at hid
      exact hid
    · right
      have hlt : id < (H' ++ X).length := by
        unfold liveB at hid
        split at hid
        · rename_i b hb; exact (List.getElem?_eq_some_iff.1 hb).1
        · cases hid
      have := hX (id - H'.length) (by rw [List.length_append] at hlt; omega)
      rwa [show H'.length + (id - H'.length) = id by omega] at this
/-- No words of one's own in the blocks. -/
def FrzL : List (Option Blk) → Prop
  | [] => True
  | none :: l => FrzL l
  | some b :: l => (∀ row ∈ b.rows, refsL row = []) ∧ FrzL l
theorem FrzL.get : ∀ {H : List (Option Blk)}, FrzL H → ∀ b, some b ∈ H → ∀ row ∈ b.rows, refsL row = []
  | [], _, b, h => by simp at h
  | none :: l, hf, b, h => FrzL.get (H := l) hf b (by simpa using h)
  | some c :: l, hf, b, h => by
    rcases List.mem_cons.1 h with h | h
    · cases h; exact hf.1
    · exact FrzL.get (H := l) hf.2 b h
theorem frz1 {row : List AV} (h : refsL row = [] := by rfl) : ∀ r ∈ [row], refsL r = [] := by simpa using h
theorem Imp.cutF {T : Nat → Option AV} {H H' X : List (Option Blk)} {M M' : List Nat} {l : List (Nat × AV)} (hT : TW T l) (hH : HW H (H' ++ X)) (hTr : ∀ p ∈ l, ∀ id ∈ refs p.2, liveB H' id = true)
    (hHr : FrzL H') (hM : ∀ id, id ∈ M → id ∈ M') (hX : ∀ j, j < X.length → H'.length + j ∈ M') : Imp G N ⟨T, H, M⟩ ⟨tab l, H', M'⟩ :=
  Imp.cut hT hH hTr (fun b hb row hr id hid => by rw [hHr.get b hb row hr] at hid; simp at hid) hM hX
theorem BW.snoc {s : Nat} {a a' : List (List AV)} {row row' : List AV} (h : a = a') (hr : RW row row') : BW (some ⟨s, a ++ [row]⟩) (some ⟨s, a' ++ [row']⟩) := by
  subst h
  refine ⟨rfl, by simp, fun i r r' h1 h2 => ?_⟩
  simp only [List.getElem?_append] at h1 h2
  split at h1
  · rename_i hl
    rw [if_pos hl] at h2
    rw [h1] at h2; cases h2
    exact .refl r
  · rename_i hl
    rw [if_neg hl] at h2
    rcases hk : i - a.length with _ | k
    · rw [hk] at h1 h2
      simp at h1 h2
      subst h1; subst h2
      exact hr
    · rw [hk] at h1; simp at h1

/-- A call over one's own memory, as it ends: of what it leaves less may be said. -/
theorem ECall.introW {f : FuncId} {fn : Func} {c : Code} {args : List AV} {H H' : List (Option Blk)} {r : AV} {K : List Nat} (hf : P.funcs[f]? = some fn) (hname : (fn.name == "runtime.NumGoroutine") = false) (hb : fn.body = some c) (hn : args.length ≤ fn.ntmps)
    (h : AWP P G fn.ntmps c (EndQ P G fn.results.toList fun v s => Wv v r ∧ HW s.H H' ∧ ∀ id, id ∈ s.M → id ∈ K) ⟨argT args, H, []⟩) : ECall P G f args H r H' K := by
  refine ⟨⟨fn, hf, hname, by simp [hb]⟩, fun ι F w us hR hG hargs => calls_of_wp hf hb ?_⟩
  have hsz : us.size = args.length := hargs.1.symm
  have hr : RS G fn.ntmps ι F ⟨argT args, H, []⟩ { tmps := us ++ Array.replicate (fn.ntmps - us.size) undef, defers := [] } w := ⟨argT_rel hargs, hR, hG, by simp; omega, rfl⟩
  refine wp_mono (h ι F _ w hr) fun e a' w' ⟨s, ι', F', hq, hr', hT⟩ => ?_
  have fin : (retL P G s.T s.H fn.results.toList fun vs => Wv (retV vs) r ∧ HW s.H H' ∧ ∀ id, id ∈ s.M → id ∈ K) → a'.defers = [] ∧ ∃ v, (results fn a'.tmps).run P w' = .ok v w' ∧ ∃ v' ι' F', Ending.returned v = .returned v' ∧ VR w' ι' F' r v' ∧ RelL w' ι' F' H' ∧ Ext ι H F w ι' H' F' w' ∧ ∀ c x, VR w ι F c x → VR w' ι' F' (killK K c) x := by
    intro hret
    obtain ⟨vs, u, ⟨hwv, hhw, hM⟩, hrun, hv⟩ := results_run hr' hret
    obtain ⟨h1, h2⟩ := hr'.h.less hhw
    refine ⟨hr'.d, u, hrun, u, ι', F', rfl, hwv.rel hv, h1, hT.toExt.less h2, fun c x hx => ?_⟩
    unfold killK
    split
    · exact .fr (.junk x)
    · rename_i hno
      refine hT.car c x (fun id hid hm => hno ?_) hx
      rw [List.any_eq_true]
      exact ⟨id, hid, by simpa using hM id hm⟩
  cases e <;> simp only [EndQ] at hq <;> simp only [bodyPost]
  case normal => exact fin hq
  case ret => exact fin hq

/-- What a call leaves: less said, the last blocks forgotten. -/
structure Cut (H H' : List (Option Blk)) (M K : List Nat) : Prop where
  ex : ∃ X, HW H (H' ++ X) ∧ ∀ j, j < X.length → H'.length + j ∈ K
  rows : ∀ b, some b ∈ H' → ∀ row ∈ b.rows, ∀ id ∈ refsL row, liveB H' id = true
  m : ∀ id, id ∈ M → id ∈ K
theorem Cut.mk' {H H' X : List (Option Blk)} {M K : List Nat} (h : HW H (H' ++ X)) (hr : ∀ b, some b ∈ H' → ∀ row ∈ b.rows, ∀ id ∈ refsL row, liveB H' id = true) (hm : ∀ id, id ∈ M → id ∈ K) (hx : ∀ j, j < X.length → H'.length + j ∈ K) : Cut H H' M K := ⟨⟨X, h, hx⟩, hr, hm⟩
theorem Cut.frz {H H' X : List (Option Blk)} {M K : List Nat} (h : HW H (H' ++ X)) (hr : FrzL H') (hm : ∀ id, id ∈ M → id ∈ K) (hx : ∀ j, j < X.length → H'.length + j ∈ K) : Cut H H' M K := ⟨⟨X, h, hx⟩, fun b hb row hrow id hid => by rw [hr.get b hb row hrow] at hid; simp at hid, hm⟩

theorem RelL.cut {w : World} {ι : Imap} {F : Nat → Prop} {H0 H' X : List (Option Blk)} (h0 : RelL w ι F H0) (hw : HW H0 (H' ++ X)) (hr : ∀ b, some b ∈ H' → ∀ row ∈ b.rows, ∀ id ∈ refsL row, liveB H' id = true) :
    RelL w (fun id => if liveB H' id then ι id else none) F H' ∧ (∀ g, fp (fun id => if liveB H' id then ι id else none) H' g → fp ι H0 g) ∧ ∀ id x, ι id = some x → liveB H' id = true ∨ (H'.length ≤ id ∧ id < H'.length + X.length) := by
  obtain ⟨h, hf⟩ := h0.less hw
  have hl : ∀ {id : Nat} {b : Blk}, H'[id]? = some (some b) → (H' ++ X)[id]? = some (some b) := fun {id b} hb => by rw [List.getElem?_append_left (List.getElem?_eq_some_iff.1 hb).1]; exact hb
  have hlive : ∀ {id : Nat} {b : Blk}, H'[id]? = some (some b) → liveB H' id = true := by
    intro id b h
    simp [liveB, h]
  have hι : ∀ {id x}, (if liveB H' id then ι id else none) = some x → ι id = some x ∧ liveB H' id = true := by
    intro id x h
    by_cases hl : liveB H' id = true
    · exact ⟨by simpa [hl] using h, hl⟩
    · simp [hl] at h
  have hret : ∀ {c x}, (∀ id ∈ refs c, liveB H' id = true) → VR w ι F c x → VR w (fun id => if liveB H' id then ι id else none) F c x := fun h hx => hx.ren fun id hid => by simp [h id hid]
  refine ⟨⟨⟨fun id b hb => ?_, fun id id' b b' g x g' x' h1 h2 h3 h4 => h.inj id id' b b' g x g' x' (hl h1) (hl h2) (hι h3).1 (hι h4).1, fun id b g x h1 h2 => h.apart id b g x (hl h1) (hι h2).1, h.fz⟩, fun id x hx => ?_⟩, fun g ⟨id, b, x, h1, h2⟩ => (hf g).1 ⟨id, b, x, hl h1, (hι h2).1⟩, fun id x hx => ?_⟩
  · obtain ⟨h1, h2, h3⟩ := h.blk id b (hl hb)
    refine ⟨h1, fun h0 => h2 (by simpa [hlive hb] using h0), fun g base hg => ?_⟩
    obtain ⟨cs, e, vals, h4, h5, h6, h7⟩ := h3 g base (hι hg).1
    exact ⟨cs, e, vals, h4, h5, h6, fun i row j c hi hc => hret (fun id' hid' => hr b (List.mem_of_getElem? hb) row (List.mem_of_getElem? hi) id' (refsL_mem hc hid')) (h7 i row j c hi hc)⟩
  · have := (hι hx).2
    unfold liveB at this
    split at this
    · rename_i b hb; exact ⟨b, hb⟩
    · cases this
  · obtain ⟨b, hb⟩ := h.dom id x hx
    have hlt := (List.getElem?_eq_some_iff.1 hb).1
    rw [List.length_append] at hlt
    by_cases hh : id < H'.length
    · left
      rw [List.getElem?_append_left hh] at hb
      exact hlive hb
    · exact .inr ⟨by omega, hlt⟩

/-- A call over one's own memory, as it ends. -/
theorem ECall.introC {f : FuncId} {fn : Func} {c : Code} {args : List AV} {H H' : List (Option Blk)} {r : AV} {K : List Nat} (hf : P.funcs[f]? = some fn) (hname : (fn.name == "runtime.NumGoroutine") = false) (hb : fn.body = some c) (hn : args.length ≤ fn.ntmps) (hrl : ∀ id ∈ refs r, liveB H' id = true)
    (h : AWP P G fn.ntmps c (EndQ P G fn.results.toList fun v s => Wv v r ∧ Cut s.H H' s.M K) ⟨argT args, H, []⟩) : ECall P G f args H r H' K := by
  refine ⟨⟨fn, hf, hname, by simp [hb]⟩, fun ι F w us hR hG hargs => calls_of_wp hf hb ?_⟩
  have hsz : us.size = args.length := hargs.1.symm
  have hr : RS G fn.ntmps ι F ⟨argT args, H, []⟩ { tmps := us ++ Array.replicate (fn.ntmps - us.size) undef, defers := [] } w := ⟨argT_rel hargs, hR, hG, by simp; omega, rfl⟩
  refine wp_mono (h ι F _ w hr) fun e a' w' ⟨s, ι', F', hq, hr', hT⟩ => ?_
  have fin : (retL P G s.T s.H fn.results.toList fun vs => Wv (retV vs) r ∧ Cut s.H H' s.M K) → a'.defers = [] ∧ ∃ v, (results fn a'.tmps).run P w' = .ok v w' ∧ ∃ v' ι' F', Ending.returned v = .returned v' ∧ VR w' ι' F' r v' ∧ RelL w' ι' F' H' ∧ Ext ι H F w ι' H' F' w' ∧ ∀ c x, VR w ι F c x → VR w' ι' F' (killK K c) x := by
    intro hret
    obtain ⟨vs, u, ⟨hwv, ⟨X, hhw, hX⟩, hrows, hM⟩, hrun, hv⟩ := results_run hr' hret
    obtain ⟨h1, h2, h3⟩ := hr'.h.cut hhw hrows
    refine ⟨hr'.d, u, hrun, u, _, F', rfl, (hwv.rel hv).ren fun id hid => by simp [hrl id hid], h1, ⟨hT.size, hT.keep, hT.shape, hT.os, hT.tape, hT.output, hT.mono, hT.newF, fun g hg => hT.newH g (h2 g hg)⟩, fun c x hx => ?_⟩
    unfold killK
    split
    · exact .fr (.junk x)
    · rename_i hno
      have hnk : ∀ id ∈ refs c, id ∉ K := fun id hid hk => hno (by rw [List.any_eq_true]; exact ⟨id, hid, by simpa using hk⟩)
      refine (hT.car c x (fun id hid hm => hnk id hid (hM id hm)) hx).ren fun id hid => ?_
      by_cases hl : liveB H' id = true
      · simp [hl]
      · have hl' : liveB H' id = false := by simpa using hl
        have : ι' id = none := by
          cases hh : ι' id with
          | none => rfl
          | some y =>
            rcases h3 id y hh with h | ⟨h4, h5⟩
            · exact absurd h hl
            · have := hX (id - H'.length) (by omega)
              rw [show H'.length + (id - H'.length) = id by omega] at this
              exact absurd this (hnk id hid)
        simp [hl', this]
  cases e <;> simp only [EndQ] at hq <;> simp only [bodyPost]
  case normal => exact fin hq
  case ret => exact fin hq

theorem ViewL.get {H : List (Option Blk)} : ∀ {cs cs' : List AV}, ViewL H cs cs' → cs'.length = cs.length ∧ ∀ (j : Nat) (c c' : AV), cs[j]? = some c → cs'[j]? = some c' → View H c c'
  | [], [], _ => ⟨rfl, by simp⟩
  | c :: cs, c' :: cs', ⟨h1, h2⟩ => by
    obtain ⟨h3, h4⟩ := ViewL.get h2
    refine ⟨by simp [h3], fun j d d' hd hd' => ?_⟩
    cases j with
    | zero => simp at hd hd'; subst hd; subst hd'; exact h1
    | succ j => exact h4 j d d' (by simpa using hd) (by simpa using hd')
  | [], _ :: _, h => h.elim
  | _ :: _, [], h => h.elim
theorem View.aggL {H : List (Option Blk)} {cs cs' : List AV} (h : ViewL H cs cs') : View H (.agg cs) (.agg cs') := .agg cs cs' (ViewL.get h).1 (ViewL.get h).2
theorem View.tupL {H : List (Option Blk)} {cs cs' : List AV} (h : ViewL H cs cs') : View H (.tup cs) (.tup cs') := .tup cs cs' (ViewL.get h).1 (ViewL.get h).2
/-- Rows, one by one. -/
def VRows (H : List (Option Blk)) : List (List AV) → List (List AV) → Prop
  | [], [] => True
  | r :: rs, r' :: rs' => ViewL H r r' ∧ VRows H rs rs'
  | _, _ => False
theorem VRows.get {H : List (Option Blk)} : ∀ {rs rs' : List (List AV)}, VRows H rs rs' → rs'.length = rs.length ∧ ∀ (j : Nat) (c c' : List AV), rs[j]? = some c → rs'[j]? = some c' → ViewL H c c'
  | [], [], _ => ⟨rfl, by simp⟩
  | c :: cs, c' :: cs', ⟨h1, h2⟩ => by
    obtain ⟨h3, h4⟩ := VRows.get h2
    refine ⟨by simp [h3], fun j d d' hd hd' => ?_⟩
    cases j with
    | zero => simp at hd hd'; subst hd; subst hd'; exact h1
    | succ j => exact h4 j d d' (by simpa using hd) (by simpa using hd')
  | [], _ :: _, h => h.elim
  | _ :: _, [], h => h.elim
theorem View.slR {H : List (Option Blk)} {id s n m : Nat} {rows rows' : List (List AV)} (hb : H[id]? = some (some ⟨s, rows⟩)) (hr : VRows H rows rows') (hn : rows'.length = n) : View H (.sl id s 0 n m) (.ro s rows') := by
  obtain ⟨h1, h2⟩ := hr.get
  refine .sl id s 0 n m ⟨s, rows⟩ rows' hb rfl (by show 0 + n ≤ rows.length; omega) hn (fun i row row' h3 h4 => ?_) fun i row row' j c c' h3 h4 h5 h6 => ?_
  · simp only [Nat.zero_add] at h3
    exact (h2 i row row' h3 h4).get.1
  · simp only [Nat.zero_add] at h3
    exact (h2 i row row' h3 h4).get.2 j c c' h5 h6

/-- One's own, handed out: frozen. -/
theorem View.own {H : List (Option Blk)} {id s n m : Nat} {rows : List (List AV)} (hb : H[id]? = some (some ⟨s, rows⟩)) (hl : rows.length = n) (hr : ∀ row ∈ rows, refsL row = []) : View H (.sl id s 0 n m) (.ro s rows) := by
  refine .sl id s 0 n m ⟨s, rows⟩ rows hb rfl (by simp [hl]) hl (fun i row row' h1 h2 => ?_) fun i row row' j c c' h1 h2 h3 h4 => ?_
  · simp only [Nat.zero_add] at h1
    rw [h1] at h2; cases h2; rfl
  · simp only [Nat.zero_add] at h1
    rw [h1] at h2; cases h2
    rw [h3] at h4; cases h4
    exact .frz c (refsL_nil (hr row (List.mem_of_getElem? h1)) h3)
end
end Go.Aw

/- For the proofs: graphs, and rows of them as they lie in memory. -/
set_option linter.unusedVariables false
set_option linter.unusedSimpArgs false
namespace Go.Aw
open Go

structure Ins where
  kind : Int
  op : Int
  dst : Int
  args : List Int
  bits : Int
  ref : Int
  deriving DecidableEq
structure Term where
  kind : Int
  arg : Int
  to0 : Int
  to1 : Int
  trap : Int
  deriving DecidableEq
structure Block where
  ins : List Ins
  term : Term
  deriving DecidableEq
structure Arr where
  type : Int
  size : Int
  deriving DecidableEq
structure Graph where
  name : ByteArray
  params : List Int
  result : Int
  vars : List Int
  arrays : List Arr
  blocks : List Block
instance : Inhabited Ins := ⟨⟨0, 0, 0, [], 0, 0⟩⟩
instance : Inhabited Term := ⟨⟨0, 0, 0, 0, 0⟩⟩
instance : Inhabited Block := ⟨⟨[], default⟩⟩
instance : Inhabited Arr := ⟨⟨0, 0⟩⟩
instance : Inhabited Graph := ⟨⟨⟨#[]⟩, [], 0, [], [], []⟩⟩

def insC (x : Ins) : List AV := [.int .u8 x.kind, .int .u8 x.op, .int .i64 x.dst, .ro 1 (rowsI x.args), .int .u64 x.bits, .int .i64 x.ref]
def termC (t : Term) : List AV := [.int .u8 t.kind, .int .i64 t.arg, .int .i64 t.to0, .int .i64 t.to1, .int .u8 t.trap]
def rowsIns (l : List Ins) : List (List AV) := l.map insC
def blockC (b : Block) : List AV := [.ro 6 (rowsIns b.ins), .int .u8 b.term.kind, .int .i64 b.term.arg, .int .i64 b.term.to0, .int .i64 b.term.to1, .int .u8 b.term.trap]
def rowsBlk (l : List Block) : List (List AV) := l.map blockC
def arrC (a : Arr) : List AV := [.int .u8 a.type, .int .i64 a.size]
def rowsArr (l : List Arr) : List (List AV) := l.map arrC
def rowsU8 (xs : List Int) : List (List AV) := xs.map fun x => [.int .u8 x]
def rowsU64 (xs : List Int) : List (List AV) := xs.map fun x => [.int .u64 x]
def graphC (g : Graph) : List AV := [.str g.name, .ro 1 (rowsI g.params), .int .u8 g.result, .ro 1 (rowsU8 g.vars), .ro 2 (rowsArr g.arrays), .ro 6 (rowsBlk g.blocks)]
def rowsGr (l : List Graph) : List (List AV) := l.map graphC
theorem rowsIns_length (l : List Ins) : (rowsIns l).length = l.length := by simp [rowsIns]
theorem rowsBlk_length (l : List Block) : (rowsBlk l).length = l.length := by simp [rowsBlk]
theorem rowsArr_length (l : List Arr) : (rowsArr l).length = l.length := by simp [rowsArr]
theorem rowsU8_length (l : List Int) : (rowsU8 l).length = l.length := by simp [rowsU8]
theorem rowsU64_length (l : List Int) : (rowsU64 l).length = l.length := by simp [rowsU64]
theorem rowsGr_length (l : List Graph) : (rowsGr l).length = l.length := by simp [rowsGr]

section
variable {K : AV → Prop} {n : Int}
theorem ixQ_mapL {α : Type} (d : α) {s : Nat} {a : List α} {f : α → List AV} : ixQ (none, s) (.ro s (a.map f)) n K = Ad (0 ≤ n ∧ n < a.length) (lock (K (.rptr (f (a.getD n.toNat d)))) .mk) := ixQ_map
theorem ixQ_rowsIns {a : List Ins} : ixQ (none, 6) (.ro 6 (rowsIns a)) n K = Ad (0 ≤ n ∧ n < a.length) (lock (K (.rptr (insC (a.getD n.toNat default)))) .mk) := ixQ_mapL default
theorem ixQ_rowsBlk {a : List Block} : ixQ (none, 6) (.ro 6 (rowsBlk a)) n K = Ad (0 ≤ n ∧ n < a.length) (lock (K (.rptr (blockC (a.getD n.toNat default)))) .mk) := ixQ_mapL default
theorem ixQ_rowsArr {a : List Arr} : ixQ (none, 2) (.ro 2 (rowsArr a)) n K = Ad (0 ≤ n ∧ n < a.length) (lock (K (.rptr (arrC (a.getD n.toNat default)))) .mk) := ixQ_mapL default
theorem ixQ_rowsGr {a : List Graph} : ixQ (none, 6) (.ro 6 (rowsGr a)) n K = Ad (0 ≤ n ∧ n < a.length) (lock (K (.rptr (graphC (a.getD n.toNat default)))) .mk) := ixQ_mapL default
theorem ixQ_rowsU8 {a : List Int} : ixQ (none, 1) (.ro 1 (rowsU8 a)) n K = Ad (0 ≤ n ∧ n < a.length) (lock (K (.rptr [.int .u8 (a.getD n.toNat 0)])) .mk) := ixQ_mapL 0
theorem ixQ_rowsU64 {a : List Int} : ixQ (none, 1) (.ro 1 (rowsU64 a)) n K = Ad (0 ≤ n ∧ n < a.length) (lock (K (.rptr [.int .u64 (a.getD n.toNat 0)])) .mk) := ixQ_mapL 0
end

theorem killR_frz {k : Nat} {rows : List (List AV)} (h : ∀ row ∈ rows, refsL row = []) : killR k rows = rows := by
  unfold killR
  conv => rhs; rw [← List.map_id rows]
  refine List.map_congr_left fun row hr => ?_
  have h1 := h row hr
  show row.map (kill k) = row
  conv => rhs; rw [← List.map_id row]
  refine List.map_congr_left fun c hc => ?_
  obtain ⟨j, hj, rfl⟩ := List.mem_iff_getElem.1 hc
  simp [kill, refsL_nil h1 (List.getElem?_eq_getElem hj)]
theorem rowsIns_frz (l : List Ins) : ∀ row ∈ rowsIns l, refsL row = [] := by
  intro row h
  simp only [rowsIns, List.mem_map] at h
  obtain ⟨x, _, rfl⟩ := h
  rfl
theorem killR_rowsIns (k : Nat) (l : List Ins) : killR k (rowsIns l) = rowsIns l := killR_frz (rowsIns_frz l)
theorem rowsIns_take (l : List Ins) (i : Nat) : (rowsIns l).take i = rowsIns (l.take i) := by simp [rowsIns, List.map_take]
theorem rowsIns_drop (l : List Ins) (i : Nat) : (rowsIns l).drop i = rowsIns (l.drop i) := by simp [rowsIns, List.map_drop]
theorem rowsIns_app (a b : List Ins) : rowsIns a ++ rowsIns b = rowsIns (a ++ b) := by simp [rowsIns]
theorem rowsBlk_frz (l : List Block) : ∀ row ∈ rowsBlk l, refsL row = [] := by
  intro row h
  simp only [rowsBlk, List.mem_map] at h
  obtain ⟨x, _, rfl⟩ := h
  rfl
theorem killR_rowsBlk (k : Nat) (l : List Block) : killR k (rowsBlk l) = rowsBlk l := killR_frz (rowsBlk_frz l)
theorem rowsBlk_take (l : List Block) (i : Nat) : (rowsBlk l).take i = rowsBlk (l.take i) := by simp [rowsBlk, List.map_take]
theorem rowsBlk_drop (l : List Block) (i : Nat) : (rowsBlk l).drop i = rowsBlk (l.drop i) := by simp [rowsBlk, List.map_drop]
theorem rowsBlk_app (a b : List Block) : rowsBlk a ++ rowsBlk b = rowsBlk (a ++ b) := by simp [rowsBlk]
theorem rowsArr_frz (l : List Arr) : ∀ row ∈ rowsArr l, refsL row = [] := by
  intro row h
  simp only [rowsArr, List.mem_map] at h
  obtain ⟨x, _, rfl⟩ := h
  rfl
theorem killR_rowsArr (k : Nat) (l : List Arr) : killR k (rowsArr l) = rowsArr l := killR_frz (rowsArr_frz l)
theorem rowsArr_take (l : List Arr) (i : Nat) : (rowsArr l).take i = rowsArr (l.take i) := by simp [rowsArr, List.map_take]
theorem rowsArr_drop (l : List Arr) (i : Nat) : (rowsArr l).drop i = rowsArr (l.drop i) := by simp [rowsArr, List.map_drop]
theorem rowsArr_app (a b : List Arr) : rowsArr a ++ rowsArr b = rowsArr (a ++ b) := by simp [rowsArr]
theorem rowsU8_frz (l : List Int) : ∀ row ∈ rowsU8 l, refsL row = [] := by
  intro row h
  simp only [rowsU8, List.mem_map] at h
  obtain ⟨x, _, rfl⟩ := h
  rfl
theorem killR_rowsU8 (k : Nat) (l : List Int) : killR k (rowsU8 l) = rowsU8 l := killR_frz (rowsU8_frz l)
theorem rowsU8_take (l : List Int) (i : Nat) : (rowsU8 l).take i = rowsU8 (l.take i) := by simp [rowsU8, List.map_take]
theorem rowsU8_drop (l : List Int) (i : Nat) : (rowsU8 l).drop i = rowsU8 (l.drop i) := by simp [rowsU8, List.map_drop]
theorem rowsU8_app (a b : List Int) : rowsU8 a ++ rowsU8 b = rowsU8 (a ++ b) := by simp [rowsU8]
theorem rowsU64_frz (l : List Int) : ∀ row ∈ rowsU64 l, refsL row = [] := by
  intro row h
  simp only [rowsU64, List.mem_map] at h
  obtain ⟨x, _, rfl⟩ := h
  rfl
theorem killR_rowsU64 (k : Nat) (l : List Int) : killR k (rowsU64 l) = rowsU64 l := killR_frz (rowsU64_frz l)
theorem rowsU64_take (l : List Int) (i : Nat) : (rowsU64 l).take i = rowsU64 (l.take i) := by simp [rowsU64, List.map_take]
theorem rowsU64_drop (l : List Int) (i : Nat) : (rowsU64 l).drop i = rowsU64 (l.drop i) := by simp [rowsU64, List.map_drop]
theorem rowsU64_app (a b : List Int) : rowsU64 a ++ rowsU64 b = rowsU64 (a ++ b) := by simp [rowsU64]
theorem rowsGr_frz (l : List Graph) : ∀ row ∈ rowsGr l, refsL row = [] := by
  intro row h
  simp only [rowsGr, List.mem_map] at h
  obtain ⟨x, _, rfl⟩ := h
  rfl
theorem killR_rowsGr (k : Nat) (l : List Graph) : killR k (rowsGr l) = rowsGr l := killR_frz (rowsGr_frz l)
theorem rowsGr_take (l : List Graph) (i : Nat) : (rowsGr l).take i = rowsGr (l.take i) := by simp [rowsGr, List.map_take]
theorem rowsGr_drop (l : List Graph) (i : Nat) : (rowsGr l).drop i = rowsGr (l.drop i) := by simp [rowsGr, List.map_drop]
theorem rowsGr_app (a b : List Graph) : rowsGr a ++ rowsGr b = rowsGr (a ++ b) := by simp [rowsGr]
theorem rowsI_frz (l : List Int) : ∀ row ∈ rowsI l, refsL row = [] := refs_rowsI l
theorem rowsB_frz (l : List Bool) : ∀ row ∈ rowsB l, refsL row = [] := refs_rowsB l
theorem rowsII_frz (l : List (List Int)) : ∀ row ∈ rowsII l, refsL row = [] := by
  intro row h
  simp only [rowsII, List.mem_map] at h
  obtain ⟨x, _, rfl⟩ := h
  rfl
theorem rowsP_frz (l : List (Int × Int)) : ∀ row ∈ rowsP l, refsL row = [] := by
  intro row h
  simp only [rowsP, List.mem_map] at h
  obtain ⟨x, _, rfl⟩ := h
  rfl
end Go.Aw

/- For the proofs: the rules by short names (printed by a program). -/
namespace Go.Aw
open Go
abbrev z1 := @rowsI_length
abbrev z2 := @rowsB_length
abbrev z3 := @rowsII_length
abbrev z4 := @Int.toNat_natCast
abbrev z5 := @ev_tmp
abbrev z6 := @ev_const
abbrev z7 := @valA_bool
abbrev z8 := @valA_int
abbrev z9 := @valA_nil
abbrev z10 := @valA_str
abbrev z11 := @valA_ptr
abbrev z12 := @Ob_some
abbrev z13 := @Option.bind_some
abbrev z14 := @Option.map_some
abbrev z15 := @thenQ_normal
abbrev z16 := @thenQ_exit
abbrev z17 := @thenQ_ret
abbrev z18 := @blockQ_normal
abbrev z19 := @blockQ_exit
abbrev z20 := @blockQ_ret
abbrev z21 := @put_some
abbrev z22 := @put_none
abbrev z23 := @tab_cons
abbrev z24 := @tab_nil
abbrev z25 := @argT_cons
abbrev z26 := @argT_nil
abbrev z27 := @asI_int
abbrev z28 := @asB_bool
abbrev z29 := @Bool.false_eq_true
abbrev z30 := @Bool.true_eq_false
abbrev z31 := @hmfC_false
abbrev z32 := @hmfC_true
abbrev z33 := @cond_false
abbrev z34 := @cond_true
abbrev z35 := @Bool.and_false
abbrev z36 := @Bool.false_and
abbrev z37 := @Bool.true_and
abbrev z38 := @bne_self_eq_false
abbrev z39 := @List.replicate_zero
abbrev z40 := @List.append_nil
abbrev z41 := @retL_nil
abbrev z42 := @retV_one
abbrev z43 := @retV_two
abbrev z44 := @retV_three
abbrev z45 := @retV_four
abbrev z46 := @retV_zero
abbrev z47 := @binT_int
abbrev z48 := @binT_str
abbrev z49 := @binA_add
abbrev z50 := @binA_sub
abbrev z51 := @binA_mul
abbrev z52 := @binA_quo
abbrev z53 := @binA_rem
abbrev z54 := @binA_eql
abbrev z55 := @binA_neq
abbrev z56 := @binA_lss
abbrev z57 := @binA_leq
abbrev z58 := @binA_gtr
abbrev z59 := @binA_geq
abbrev z60 := @binA_beq
abbrev z61 := @binA_bneq
abbrev z62 := @binA_seq
abbrev z63 := @binA_sneq
abbrev z64 := @arI_64
abbrev z65 := @pickA_true
abbrev z66 := @pickA_false
abbrev z67 := @lenA_ro
abbrev z68 := @lenA_sl
abbrev z69 := @lenA_nils
abbrev z70 := @lenA_str
abbrev z71 := @rdC_none
abbrev z72 := @rdC_some
abbrev z73 := @cellsQ_int
abbrev z74 := @cellsQ_bool
abbrev z75 := @cellsQ_str
abbrev z76 := @cellsQ_sl
abbrev z77 := @cellsQ_ro
abbrev z78 := @cellsQ_nils
abbrev z79 := @cellsQ_nilp
abbrev z80 := @cellsQ_ptr
abbrev z81 := @cellsQ_rptr
abbrev z82 := @cellsQ_agg
abbrev z83 := @guardQ_boolA
abbrev z84 := @List.getElem?_toArray
abbrev z85 := @List.getElem?_cons_succ
abbrev z86 := @List.getElem?_cons_zero
abbrev z87 := @true_and
abbrev z88 := @and_true
abbrev z89 := @true_implies
abbrev z90 := @false_implies
abbrev z91 := @forall_const
abbrev z92 := @Bool.not_true
abbrev z93 := @Bool.not_false
abbrev z94 := @implies_true
abbrev z95 := @List.length_cons
abbrev z96 := @List.length_nil
abbrev z97 := @List.headD_cons
abbrev z98 := @Bool.not_eq_true'
abbrev z99 := @Bool.not_eq_false'
abbrev z100 := @decide_eq_true_eq
abbrev z101 := @decide_eq_false_iff_not
abbrev z102 := @ne_eq
abbrev z103 := @blkQ_nil
abbrev z104 := @blkQ_zero
abbrev z105 := @blkQ_succ
abbrev z106 := @rowsP_length
abbrev z107 := @slQ_nils
abbrev z108 := @bndQ_none
abbrev z109 := @bndQ_some
abbrev z110 := @Option.getD_some
abbrev z111 := @Option.getD_none
abbrev z112 := @killKT_app
abbrev z113 := @killK_int
abbrev z114 := @killK_bool_
abbrev z115 := @killK_str
abbrev z116 := @killK_nils
abbrev z117 := @killK_nilp
abbrev z118 := @killK_junk
abbrev z119 := @killK_ro
abbrev z120 := @killK_rptr
abbrev z121 := @killK_tup0
abbrev z122 := @killK_sl
abbrev z123 := @killK_ptr
abbrev z124 := @killH_nil
abbrev z125 := @killH_some
abbrev z126 := @killH_none
abbrev z127 := @killR_nil
abbrev z128 := @killR_cons
abbrev z129 := @killR_app
abbrev z130 := @killR_rowsI
abbrev z131 := @killR_rowsB
abbrev z132 := @killR_rowsII
abbrev z133 := @killR_rowsP
abbrev z134 := @rowsI_app
abbrev z135 := @rowsB_app
abbrev z136 := @rowsII_app
abbrev z137 := @rowsP_app
abbrev z138 := @rowsI_take
abbrev z139 := @rowsB_take
abbrev z140 := @rowsII_take
abbrev z141 := @rowsP_take
abbrev z142 := @rowsI_drop
abbrev z143 := @rowsI_one
abbrev z144 := @List.contains_cons
abbrev z145 := @List.contains_nil
abbrev z146 := @Bool.or_false
abbrev z147 := @Bool.or_true
abbrev z148 := @beq_self_eq_true
abbrev z149 := @List.set_cons_zero
abbrev z150 := @List.set_cons_succ
abbrev z151 := @List.cons_append
abbrev z152 := @List.nil_append
abbrev z153 := @List.drop_zero
abbrev z154 := @List.drop_succ_cons
abbrev z155 := @List.take_succ_cons
abbrev z156 := @List.take_zero
abbrev z157 := @List.take_nil
abbrev z158 := @List.drop_nil
abbrev z159 := @fillQ_nil
abbrev z160 := @List.map_cons
abbrev z161 := @List.map_nil
abbrev z162 := @List.replicate_succ
abbrev z163 := @List.flatten_cons
abbrev z164 := @List.flatten_nil
abbrev z165 := @Nat.zero_add
abbrev z166 := @Nat.add_zero
abbrev z167 := @Nat.mul_one
abbrev z168 := @Nat.zero_mul
abbrev z169 := @Nat.one_mul
abbrev z170 := @Int.toNat_zero
abbrev z171 := @Option.isSome_some
abbrev z172 := @List.length_append
abbrev z173 := @Nat.sub_zero
abbrev z174 := @and_self
abbrev z175 := @Int.sub_zero
abbrev z176 := @killK_nil
abbrev z177 := @faQ_ptr
abbrev z178 := @faQ_rptr
abbrev z179 := @unQ_not
abbrev z180 := @lenQ_str
abbrev z181 := @lenQ_sl
abbrev z182 := @lenQ_ro
abbrev z183 := @lenQ_nils
abbrev z184 := @mmQ_int
abbrev z185 := @ifQ_not
abbrev z186 := @beq_true
abbrev z187 := @beq_false
abbrev z188 := @Bool.not_not
abbrev z189 := @ixQ_rowsIAL
abbrev z190 := @ixQ_rowsBAL
abbrev z191 := @ixQ_rowsIIAL
abbrev z192 := @ixQ_slAL
abbrev z193 := @ixQ_ptrAL
abbrev z194 := @ldQ_rptrAL
abbrev z195 := @ldQ_ptrL
abbrev z196 := @ldB_rowAL
abbrev z197 := @ldB_rowsIAL
abbrev z198 := @ldB_rowsBAL
abbrev z199 := @ldB_rowsIIAL
abbrev z200 := @ldB_rowsP0AL
abbrev z201 := @ldB_rowsP1AL
abbrev z202 := @stQ_ptrL
abbrev z203 := @stB_rowAL
abbrev z204 := @stB_rowsIAL
abbrev z205 := @stB_rowsBAL
abbrev z206 := @stB_rowsIIAL
abbrev z207 := @stB_rowsP1AL
abbrev z208 := @srcQ_slAL
abbrev z209 := @srcQ_roAL
abbrev z210 := @srcQ_nilsL
abbrev z211 := @appQ_nilsAL
abbrev z212 := @appQ_slAL
abbrev z213 := @appBAL
abbrev z214 := @slQ_slAL
abbrev z215 := @slQ_sl3AL
abbrev z216 := @slQ_roAL
abbrev z217 := @fillQ_consAL
abbrev z218 := @fdQ_aggAL
abbrev z219 := @unQ_negAL
abbrev z220 := @exQ_tupL
abbrev z221 := @doQ_moveL
abbrev z222 := @doQ_assignL
abbrev z223 := @doQ_binOpAL
abbrev z224 := @doQ_unOpVL
abbrev z225 := @doQ_pickL
abbrev z226 := @doQ_nilCheckVL
abbrev z227 := @doQ_extractVL
abbrev z228 := @doQ_convertL
abbrev z229 := @doQ_fieldAddrVL
abbrev z230 := @doQ_fieldVL
abbrev z231 := @doQ_indexAddrL
abbrev z232 := @doQ_loadL
abbrev z233 := @doQ_allocAL
abbrev z234 := @doQ_boxAL
abbrev z235 := @doQ_makeSliceAL
abbrev z236 := @doQ_buildSliceAL
abbrev z237 := @doQ_buildFL
abbrev z238 := @doQ_sliceAL
abbrev z239 := @doQ_makeFuncL
abbrev z240 := @doQ_storeQL
abbrev z241 := @doQ_appendAL
abbrev z242 := @doQ_lenVL
abbrev z243 := @doQ_minVL
abbrev z244 := @doQ_maxVL
abbrev z245 := @runQ_nilL
abbrev z246 := @runQ_consL
abbrev z247 := @runQ_gdL
abbrev z248 := @dstAt_L
abbrev z249 := @wpC_skipL
abbrev z250 := @wpC_exitL
abbrev z251 := @wpC_gotoL
abbrev z252 := @wpC_retL
abbrev z253 := @wpC_labelL
abbrev z254 := @wpC_seqL
abbrev z255 := @wpC_condL
abbrev z256 := @wpC_blockL
abbrev z257 := @wpC_regionL
abbrev z258 := @wpC_loopL
abbrev z259 := @EndQ_retL
abbrev z260 := @EndQ_normalL
abbrev z261 := @retL_tmpL
abbrev z262 := @lock_app
abbrev z263 := @Ad_trueL
abbrev z264 := @ifQ_trueL
abbrev z265 := @ifQ_falseL
abbrev z266 := @guardQ_tupL
abbrev z267 := @nilQ_ptrL
abbrev z268 := @nilQ_rptrL
abbrev z269 := @nilQ_fnL
abbrev z270 := @argsQ_nil
abbrev z271 := @argsQ_cons
abbrev z272 := @fnQ_fn
abbrev z273 := @selQ_true
abbrev z274 := @selQ_false
abbrev z275 := @ev_func
abbrev z276 := @doQ_callA
abbrev z277 := @retL_cellL
abbrev z278 := @List.getElem?_nil
abbrev z279 := @List.length_map
abbrev z280 := @List.length_take
abbrev z281 := @List.length_replicate
abbrev z282 := @List.length_set
abbrev z283 := @killR_rowsIns
abbrev z284 := @rowsIns_take
abbrev z285 := @rowsIns_drop
abbrev z286 := @rowsIns_app
abbrev z287 := @killR_rowsBlk
abbrev z288 := @rowsBlk_take
abbrev z289 := @rowsBlk_drop
abbrev z290 := @rowsBlk_app
abbrev z291 := @killR_rowsArr
abbrev z292 := @rowsArr_take
abbrev z293 := @rowsArr_drop
abbrev z294 := @rowsArr_app
abbrev z295 := @killR_rowsU8
abbrev z296 := @rowsU8_take
abbrev z297 := @rowsU8_drop
abbrev z298 := @rowsU8_app
abbrev z299 := @killR_rowsU64
abbrev z300 := @rowsU64_take
abbrev z301 := @rowsU64_drop
abbrev z302 := @rowsU64_app
abbrev z303 := @killR_rowsGr
abbrev z304 := @rowsGr_take
abbrev z305 := @rowsGr_drop
abbrev z306 := @rowsGr_app
abbrev z307 := @List.take_take
abbrev z308 := @Nat.min_self
abbrev z309 := @rowsIns_length
abbrev z310 := @rowsBlk_length
abbrev z311 := @rowsArr_length
abbrev z312 := @rowsU8_length
abbrev z313 := @rowsU64_length
abbrev z314 := @rowsGr_length
abbrev z315 := @ixQ_rowsIns
abbrev z316 := @ixQ_rowsBlk
abbrev z317 := @ixQ_rowsArr
abbrev z318 := @ixQ_rowsGr
abbrev z319 := @ixQ_rowsU8
abbrev z320 := @ixQ_rowsU64
end Go.Aw

/- For the proofs: one's own memory, frozen for good. -/
set_option linter.unusedVariables false
namespace Go.Aw
open Go
section
variable {P : Program} {G : Glob} {N : Nat}

theorem fp_lt {w : World} {ι : Imap} {F : Nat → Prop} {H : List (Option Blk)} (h : RelH w ι F H) {g : Nat} (hg : fp ι H g) : g < w.heap.size := by
  obtain ⟨id, b, x, h1, h2⟩ := hg
  obtain ⟨cs, e, vals, h3, _⟩ := (h.blk id b h1).2.2 g x h2
  exact heap_lt h3
theorem no_words {w : World} {ι : Imap} {F : Nat → Prop} {H : List (Option Blk)} (h : RelL w ι F H) {K : List Nat} (hK : ∀ id, liveB H id = true → id ∈ K) {id : Nat} (hid : id ∉ K) : ι id = none := by
  cases hh : ι id with
  | none => rfl
  | some x =>
    obtain ⟨b, hb⟩ := h.dom id x hh
    exact absurd (hK id (by simp [liveB, hb])) hid

/-- All of one's own memory is frozen; what is kept is seen so. -/
theorem Imp.freeze {T : Nat → Option AV} {H : List (Option Blk)} {M M' : List Nat} {l : List (Nat × AV)} (hT : ∀ p ∈ l, ∃ c, T p.1 = some c ∧ View H c p.2) (hM : ∀ id, id ∈ M → id ∈ M') (hK : ∀ id, liveB H id = true → id ∈ M') : Imp G N ⟨T, H, M⟩ ⟨tab l, [], M'⟩ := fun ι F a w hr => by
  have hsub : ∀ g, F g → F g ∨ fp ι H g := fun g hg => .inl hg
  refine ⟨fun _ => none, fun g => F g ∨ fp ι H g, ⟨fun t v hv => ?_, ⟨⟨fun id b hb => by simp at hb, fun id id' b b' g x g' x' hb => by simp at hb, fun id b g x hb => by simp at hb, fun g hg => hg.elim (hr.h.fz g) (fp_lt hr.h.toRelH)⟩, fun id x hx => by cases hx⟩, hr.g.le hsub, hr.n, hr.d⟩,
    ⟨⟨Nat.le_refl _, fun _ _ _ => rfl, fun _ _ h => h, rfl, rfl, rfl, hsub, fun g hg => hg.elim .inl (fun h => .inr (.inl h)), fun g ⟨id, b, x, h1, _⟩ => by simp at h1⟩, fun c x hc hx => ?_, hM⟩⟩
  · obtain ⟨p, hp, rfl, rfl⟩ := tab_first hv
    obtain ⟨c, hc, hw⟩ := hT p hp
    obtain ⟨u, hu, hur⟩ := hr.t _ c hc
    exact ⟨u, hu, .fr (hw.sound hr.h.toRelH u hur)⟩
  · exact (hx.ren fun id hid => (no_words hr.h hK (hc id hid)).symm).mono hsub (fun _ _ => rfl) (fun _ _ h => h) fun _ _ h => h

/-- A call to which one's own memory is handed for good. -/
theorem ECall.freeze {f : FuncId} {args args' : List AV} {H : List (Option Blk)} {r : AV} {K : List Nat} (h : PCall P G f args' r) (hv : ViewL H args args') (hK : ∀ id, liveB H id = true → id ∈ K) : ECall P G f args H r (H.map fun _ => none) K := by
  refine ⟨h.1, fun ι F w us hR hG ha => ?_⟩
  obtain ⟨hl, hs⟩ := hv.sound hR.toRelH
  have hsub : ∀ g, F g → F g ∨ fp ι H g := fun g hg => .inl hg
  have hF' : ∀ g, F g ∨ fp ι H g → g < w.heap.size := fun g hg => hg.elim (hR.fz g) (fp_lt hR.toRelH)
  have hargs : FRL w (fun g => F g ∨ fp ι H g) args' us := ⟨by rw [hl]; exact ha.1, fun j c hc => by
    obtain ⟨c0, hc0⟩ := get_len hl hc
    obtain ⟨x, hx, hxr⟩ := ha.2 j c0 hc0
    exact ⟨x, hx, hs j c x hc fun d hd => by rw [hc0] at hd; cases hd; exact hxr⟩⟩
  refine (h.2 _ w us hF' (hG.le hsub) hargs).mono fun e w' ⟨v, he, hv', hk⟩ => ?_
  have hnone : ∀ (id : Nat) (b : Blk), (H.map fun _ => (none : Option Blk))[id]? ≠ some (some b) := fun id b hb => by
    rw [List.getElem?_map, Option.map_eq_some_iff] at hb
    obtain ⟨_, _, hh⟩ := hb
    cases hh
  refine ⟨v, fun _ => none, fun g => (F g ∨ fp ι H g) ∨ (w.heap.size ≤ g ∧ g < w'.heap.size), he, .fr hv', ⟨⟨fun id b hb => absurd hb (hnone id b), fun id id' b b' g x g' x' hb => absurd hb (hnone id b), fun id b g x hb => absurd hb (hnone id b), fun g hg => hg.elim (fun h => Nat.lt_of_lt_of_le (hF' g h) hk.size) (·.2)⟩, fun id x hx => by cases hx⟩,
    ⟨hk.size, fun g hg _ => hk.keep g hg, fun g x hx => ?_, hk.os, hk.tape, hk.output, fun g hg => .inl (.inl hg), fun g hg => ?_, fun g ⟨id, b, x, h1, _⟩ => absurd h1 (hnone id b)⟩, fun c x hx => ?_⟩
  · have hlt : g < w.heap.size := by
      unfold World.shape? at hx
      split at hx
      · rename_i h1; exact heap_lt h1
      · cases hx
    rw [shape_block (hk.keep g hlt)]; exact hx
  · rcases hg with (hg | hg) | hg
    · exact .inl hg
    · exact .inr (.inl hg)
    · exact .inr (.inr hg.1)
  · unfold killK
    split
    · exact .fr (.junk x)
    · rename_i hno
      have hnk : ∀ id ∈ refs c, id ∉ K := fun id hid hkk => hno (by rw [List.any_eq_true]; exact ⟨id, hid, by simpa using hkk⟩)
      refine (hx.ren fun id hid => (no_words hR hK (hnk id hid)).symm).mono (F' := fun g => (F g ∨ fp ι H g) ∨ (w.heap.size ≤ g ∧ g < w'.heap.size)) (fun g hg => .inl (.inl hg)) (fun a ha => hk.cell (hR.fz _ ha)) (fun g y hy => ?_) fun _ _ h => h
      have hlt : g < w.heap.size := by
        unfold World.shape? at hy
        split at hy
        · rename_i h1; exact heap_lt h1
        · cases hy
      rw [shape_block (hk.keep g hlt)]; exact hy

/-- A nil slice is an argument, too. -/
theorem PCall.arg {f : FuncId} {args args' : List AV} {r : AV} (h : PCall P G f args r) (hl : args.length = args'.length) (hw : ∀ (j : Nat) (c c' : AV), args[j]? = some c → args'[j]? = some c' → c = c' ∨ (c' = .nils ∧ ∃ s, c = .ro s [])) : PCall P G f args' r := by
  refine ⟨h.1, fun F w us hF hG ha => h.2 F w us hF hG ⟨by rw [hl]; exact ha.1, fun j c hc => ?_⟩⟩
  obtain ⟨c', hc'⟩ := get_len hl hc
  obtain ⟨x, hx, hr⟩ := ha.2 j c' hc'
  refine ⟨x, hx, ?_⟩
  rcases hw j c c' hc hc' with rfl | ⟨rfl, s, rfl⟩
  · exact hr
  · cases hr with
    | nils oa => exact .ro s [] oa 0 (fun _ _ => default) (by simp) (by simp) (by simp) (by simp)
end
end Go.Aw
