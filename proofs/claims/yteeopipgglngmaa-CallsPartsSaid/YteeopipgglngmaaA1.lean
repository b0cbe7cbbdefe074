/- Abstract values, and what it means that a value of the machine stands for one. -/
import Derived.Calls
import Derived.Orders
import Derived.Laws.Sem
import Derived.DeepKeys
import Derived.WalkKit
import Derived.Laws.Cells
import Derived.Laws.StructEq
import Derived.Laws.NewFold
import Derived.Laws.World
set_option linter.all false
namespace Go.Aw
open Go

/-- Abstract one-cell values (and structs, tuples as rows of cells). -/
inductive AV where
  | bool (b : Bool)
  | int (k : IntKind) (n : Int)
  | float (k : FloatKind) (bits : Nat)
  | str (s : ByteArray)
  | nils
  | nilp
  | ro (s : Nat) (rows : List (List AV))
  | rptr (cells : List AV)
  | sl (id s off len m : Nat)
  | ptr (id s i j : Nat)
  | fn (f : FuncId) (cap : List AV)
  | agg (cs : List AV)
  | tup (vs : List AV)
  | junk
  deriving Inhabited

/-- Frozen: no word of the call's own memory in it; what is read lies in blocks of F. -/
inductive FR (w : World) (F : Nat → Prop) : AV → Value → Prop
  | bool (b) : FR w F (.bool b) (.bool b)
  | int (k n) : FR w F (.int k n) (.int k n)
  | float (k n) : FR w F (.float k n) (.float k n)
  | str (s) : FR w F (.str s) (.string s)
  | nils (oa) : FR w F .nils (.slice oa 0 0)
  | nilp : FR w F .nilp (.pointer none)
  | ro (s : Nat) (rows : List (List AV)) (oa : Option Addr) (cap : Nat) (vals : Nat → Nat → Value)
      (hcap : rows.length ≤ cap ∧ rows.length ≤ 140737488355328)
      (hrow : ∀ (i : Nat) (row : List AV), rows[i]? = some row → row.length = s ∧ ∃ a, oa = some a ∧ a.spot = none ∧ F a.block ∧ ∀ j, j < s → w.cell? ⟨a.block, a.off + i * s + j, none⟩ = some (vals i j))
      (hone : ∀ i j, i < rows.length → j < s → (vals i j).oneCell' = true)
      (hrel : ∀ (i : Nat) (row : List AV) (j : Nat) (c : AV), rows[i]? = some row → row[j]? = some c → FR w F c (vals i j)) :
      FR w F (.ro s rows) (.slice oa rows.length cap)
  | rptr (cells : List AV) (a : Addr) (vals : Nat → Value) (hs : a.spot = none) (hF : F a.block)
      (hcell : ∀ j, j < cells.length → w.cell? ⟨a.block, a.off + j, none⟩ = some (vals j))
      (hone : ∀ j, j < cells.length → (vals j).oneCell' = true)
      (hrel : ∀ (j : Nat) (c : AV), cells[j]? = some c → FR w F c (vals j)) :
      FR w F (.rptr cells) (.pointer (some a))
  | fn (f : FuncId) (cap : List AV) (vs : Array Value) (hl : cap.length = vs.size) (vals : Nat → Value)
      (hv : ∀ j, j < cap.length → vs[j]? = some (vals j))
      (hrel : ∀ (j : Nat) (c : AV), cap[j]? = some c → FR w F c (vals j)) :
      FR w F (.fn f cap) (.func (.func f) #[] vs)
  | agg (cs : List AV) (vs : Array Value) (hl : cs.length = vs.size) (vals : Nat → Value)
      (hv : ∀ j, j < cs.length → vs[j]? = some (vals j))
      (hone : ∀ j, j < cs.length → (vals j).oneCell' = true)
      (hrel : ∀ (j : Nat) (c : AV), cs[j]? = some c → FR w F c (vals j)) :
      FR w F (.agg cs) (.agg vs)
  | tup (cs : List AV) (vs : Array Value) (hl : cs.length = vs.size) (vals : Nat → Value)
      (hv : ∀ j, j < cs.length → vs[j]? = some (vals j))
      (hrel : ∀ (j : Nat) (c : AV), cs[j]? = some c → FR w F c (vals j)) :
      FR w F (.tup cs) (.tuple vs)
  | junk (v) : FR w F .junk v

/-- With words of the call's own memory: id -> block and where in it. -/
inductive VR (w : World) (ι : Nat → Option (Nat × Nat)) (F : Nat → Prop) : AV → Value → Prop
  | fr {c v} (h : FR w F c v) : VR w ι F c v
  | sl0 (id s off : Nat) (oa : Option Addr) : VR w ι F (.sl id s off 0 0) (.slice oa 0 0)
  | sl (id s off len m cap g base n : Nat) (e : TypeId) (hι : ι id = some (g, base)) (hsh : w.shape? g = some (e, n))
      (hlen : len ≤ m) (hm : m ≤ cap ∧ m ≤ 140737488355328) (hfit : base + (off + cap) * s ≤ n) :
      VR w ι F (.sl id s off len m) (.slice (some ⟨g, base + off * s, none⟩) len cap)
  | ptr (id s i j g base : Nat) (hι : ι id = some (g, base)) :
      VR w ι F (.ptr id s i j) (.pointer (some ⟨g, base + i * s + j, none⟩))
  | fn (f : FuncId) (cap : List AV) (vs : Array Value) (hl : cap.length = vs.size) (vals : Nat → Value)
      (hv : ∀ j, j < cap.length → vs[j]? = some (vals j))
      (hrel : ∀ (j : Nat) (c : AV), cap[j]? = some c → VR w ι F c (vals j)) :
      VR w ι F (.fn f cap) (.func (.func f) #[] vs)
  | agg (cs : List AV) (vs : Array Value) (hl : cs.length = vs.size) (vals : Nat → Value)
      (hv : ∀ j, j < cs.length → vs[j]? = some (vals j))
      (hone : ∀ j, j < cs.length → (vals j).oneCell' = true)
      (hrel : ∀ (j : Nat) (c : AV), cs[j]? = some c → VR w ι F c (vals j)) :
      VR w ι F (.agg cs) (.agg vs)
  | tup (cs : List AV) (vs : Array Value) (hl : cs.length = vs.size) (vals : Nat → Value)
      (hv : ∀ j, j < cs.length → vs[j]? = some (vals j))
      (hrel : ∀ (j : Nat) (c : AV), cs[j]? = some c → VR w ι F c (vals j)) :
      VR w ι F (.tup cs) (.tuple vs)

/-- Blocks of F read as they did, and more blocks may be frozen. -/
theorem FR.mono {w w' : World} {F F' : Nat → Prop} (hF : ∀ g, F g → F' g) (hw : ∀ a : Addr, F a.block → w'.cell? a = w.cell? a) {c : AV} {v : Value} (h : FR w F c v) : FR w' F' c v := by
  induction h with
  | bool b => exact .bool b
  | int k n => exact .int k n
  | float k n => exact .float k n
  | str s => exact .str s
  | nils oa => exact .nils oa
  | nilp => exact .nilp
  | ro s rows oa cap vals hcap hrow hone hrel ih =>
    refine .ro s rows oa cap vals hcap (fun i row hi => ?_) hone ih
    obtain ⟨h1, a, h2, h3, h4, h5⟩ := hrow i row hi
    exact ⟨h1, a, h2, h3, hF _ h4, fun j hj => (hw ⟨a.block, a.off + i * s + j, none⟩ h4).trans (h5 j hj)⟩
  | rptr cells a vals hs hFa hcell hone hrel ih => exact .rptr cells a vals hs (hF _ hFa) (fun j hj => (hw ⟨a.block, a.off + j, none⟩ hFa).trans (hcell j hj)) hone ih
  | fn f cap vs hl vals hv hrel ih => exact .fn f cap vs hl vals hv ih
  | agg cs vs hl vals hv hone hrel ih => exact .agg cs vs hl vals hv hone ih
  | tup cs vs hl vals hv hrel ih => exact .tup cs vs hl vals hv ih
  | junk v => exact .junk v

theorem VR.mono {w w' : World} {F F' : Nat → Prop} {ι ι' : Nat → Option (Nat × Nat)} (hF : ∀ g, F g → F' g) (hw : ∀ a : Addr, F a.block → w'.cell? a = w.cell? a)
    (hs : ∀ g x, w.shape? g = some x → w'.shape? g = some x) {c : AV} {v : Value}
    (hι : ∀ id x, ι id = some x → ι' id = some x) (h : VR w ι F c v) : VR w' ι' F' c v := by
  induction h with
  | fr h => exact .fr (h.mono hF hw)
  | sl0 id s off oa => exact .sl0 id s off oa
  | sl id s off len m cap g base n e hi hsh hlen hm hfit => exact .sl id s off len m cap g base n e (hι _ _ hi) (hs _ _ hsh) hlen hm hfit
  | ptr id s i j g base hi => exact .ptr id s i j g base (hι _ _ hi)
  | fn f cap vs hl vals hv hrel ih => exact .fn f cap vs hl vals hv ih
  | agg cs vs hl vals hv hone hrel ih => exact .agg cs vs hl vals hv hone ih
  | tup cs vs hl vals hv hrel ih => exact .tup cs vs hl vals hv ih

end Go.Aw

/- The abstract state, what it stands for, and the abstract operations. -/
namespace Go.Aw
open Go

structure Blk where
  s : Nat
  rows : List (List AV)

structure St where
  T : Nat → Option AV
  H : List (Option Blk)
  M : List Nat

abbrev Imap := Nat → Option (Nat × Nat)
abbrev Glob := Nat → Option (List AV)

def put (T : Nat → Option AV) (d : Option Nat) (v : AV) : Nat → Option AV :=
  match d with
  | none => T
  | some d => fun t => if t = d then some v else T t

def HB (w : World) (ι : Imap) (F : Nat → Prop) (id : Nat) (b : Blk) : Prop :=
  (∀ (i : Nat) (row : List AV), b.rows[i]? = some row → row.length = b.s) ∧ (ι id = none → b.rows = []) ∧
  ∀ g base, ι id = some (g, base) → ∃ (cs : Array Value) (e : TypeId) (vals : Nat → Nat → Value), w.heap[g]? = some (.cells cs e (0, 0)) ∧ base + b.rows.length * b.s ≤ cs.size ∧
    (∀ i j, i < b.rows.length → j < b.s → cs[base + i * b.s + j]? = some (vals i j) ∧ (vals i j).oneCell' = true) ∧
    ∀ (i : Nat) (row : List AV) (j : Nat) (c : AV), b.rows[i]? = some row → row[j]? = some c → VR w ι F c (vals i j)

structure RelH (w : World) (ι : Imap) (F : Nat → Prop) (H : List (Option Blk)) : Prop where
  blk : ∀ id b, H[id]? = some (some b) → HB w ι F id b
  inj : ∀ id id' b b' g x g' x', H[id]? = some (some b) → H[id']? = some (some b') → ι id = some (g, x) → ι id' = some (g', x') → id ≠ id' → g ≠ g'
  apart : ∀ id b g x, H[id]? = some (some b) → ι id = some (g, x) → ¬ F g
  fz : ∀ g, F g → g < w.heap.size

def RelG (G : Glob) (w : World) (F : Nat → Prop) : Prop :=
  ∀ g cs, G g = some cs → F g ∧ ∃ vals : Nat → Value, (∀ j, j < cs.length → w.cell? ⟨g, j, none⟩ = some (vals j) ∧ (vals j).oneCell' = true) ∧ ∀ (j : Nat) (c : AV), cs[j]? = some c → FR w F c (vals j)

def RelT (w : World) (ι : Imap) (F : Nat → Prop) (T : Nat → Option AV) (a : Act) : Prop :=
  ∀ t v, T t = some v → ∃ u, a.tmps[t]? = some u ∧ VR w ι F v u

structure Rel (G : Glob) (N : Nat) (ι : Imap) (F : Nat → Prop) (st : St) (a : Act) (w : World) : Prop where
  t : RelT w ι F st.T a
  h : RelH w ι F st.H
  g : RelG G w F
  n : a.tmps.size = N
  d : a.defers = []

def fp (ι : Imap) (H : List (Option Blk)) (g : Nat) : Prop := ∃ id b x, H[id]? = some (some b) ∧ ι id = some (g, x)

structure Ext (ι : Imap) (H : List (Option Blk)) (F : Nat → Prop) (w : World) (ι' : Imap) (H' : List (Option Blk)) (F' : Nat → Prop) (w' : World) : Prop where
  size : w.heap.size ≤ w'.heap.size
  keep : ∀ g, g < w.heap.size → ¬ fp ι H g → w'.heap[g]? = w.heap[g]?
  shape : ∀ g x, w.shape? g = some x → w'.shape? g = some x
  os : w'.os = w.os
  tape : w'.tape = w.tape
  output : w'.output = w.output
  mono : ∀ g, F g → F' g
  newF : ∀ g, F' g → F g ∨ fp ι H g ∨ w.heap.size ≤ g
  newH : ∀ g, fp ι' H' g → fp ι H g ∨ w.heap.size ≤ g

theorem Ext.refl (ι : Imap) (H : List (Option Blk)) (F : Nat → Prop) (w : World) : Ext ι H F w ι H F w :=
  ⟨Nat.le_refl _, fun _ _ _ => rfl, fun _ _ h => h, rfl, rfl, rfl, fun _ h => h, fun _ h => .inl h, fun _ h => .inl h⟩

theorem Ext.trans {ι ι1 ι2 : Imap} {H H1 H2 : List (Option Blk)} {F F1 F2 : Nat → Prop} {w w1 w2 : World} (h : Ext ι H F w ι1 H1 F1 w1) (k : Ext ι1 H1 F1 w1 ι2 H2 F2 w2) : Ext ι H F w ι2 H2 F2 w2 where
  size := Nat.le_trans h.size k.size
  keep g hg hf := (k.keep g (Nat.lt_of_lt_of_le hg h.size) (fun hh => (h.newH g hh).elim hf (by omega))).trans (h.keep g hg hf)
  shape g x hx := k.shape g x (h.shape g x hx)
  os := k.os.trans h.os
  tape := k.tape.trans h.tape
  output := k.output.trans h.output
  mono g hg := k.mono g (h.mono g hg)
  newF g hg := by
    rcases k.newF g hg with h1 | h1 | h1
    · exact h.newF g h1
    · rcases h.newH g h1 with h2 | h2
      · exact .inr (.inl h2)
      · exact .inr (.inr h2)
    · exact .inr (.inr (Nat.le_trans h.size h1))
  newH g hg := by
    rcases k.newH g hg with h1 | h1
    · exact h.newH g h1
    · exact .inr (Nat.le_trans h.size h1)

/-! ### Types, as far as they are asked -/
def cellA : Value → Option AV
  | .bool b => some (.bool b)
  | .int k n => some (.int k n)
  | .float k n => some (.float k n)
  | .string s => some (.str s)
  | .slice none 0 0 => some .nils
  | .pointer none => some .nilp
  | _ => none
def valA : Value → Option AV
  | .agg cs => (cs.toList.mapM cellA).map .agg
  | .tuple cs => (cs.toList.mapM cellA).map .tup
  | v => cellA v
/-- What is indexed: an array's length (none: a slice), the element's size. -/
def ixI (P : Program) (t : TypeId) : Option (Option Nat × Nat) :=
  match P.underlying t with
  | some (.slice e) => (P.info? e).map fun i => (none, i.size)
  | some (.array n e) => (P.info? e).map fun i => (some n, i.size)
  | _ => none
/-- What is loaded: none: one cell; some n: n cells. -/
def ldI (P : Program) (t : TypeId) : Option (Option Nat) :=
  match P.underlying t with
  | some (.struct _) | some (.array _ _) => (P.info? t).map fun i => some i.size
  | some _ => some none
  | none => none
def szI (P : Program) (t : TypeId) : Option Nat := (P.info? t).map (·.size)
/-- A field: its offset, and what it is. -/
def flI (P : Program) (s : TypeId) (f : Nat) : Option (Nat × Option Nat) :=
  match P.underlying s with
  | some (.struct fs) => (fs[f]?).bind fun x => match szI P x.type, ldI P x.type with
    | some (_ + 1), some l => some (x.offset, l)
    | _, _ => none
  | _ => none
def zrI (P : Program) (t : TypeId) : Option (List AV) :=
  (P.info? t).bind fun i => i.zero.bind fun v => (v.cells.toList.mapM cellA).bind fun l => if l.length = i.size then some l else none
/-- A slice type's element: its size, its bytes, its zero. -/
def elI (P : Program) (t : TypeId) : Option (Nat × Nat × List AV) :=
  match P.underlying t with
  | some (.slice e) => (P.info? e).bind fun i => (zrI P e).map fun z => (i.size, i.bytes, z)
  | _ => none
def inI (n : Int) : Prop := -9223372036854775808 ≤ n ∧ n ≤ 9223372036854775807
def arI (k : IntKind) (n : Int) : Prop × AV := match k with
  | .i64 => (inI n, .int .i64 n)
  | k => (True, .int k (k.wrap n))
def bitsI (op : BinOp) (k : IntKind) (x y : Int) : Int :=
  let a := BitVec.ofInt k.bits x
  let b := BitVec.ofInt k.bits y
  k.wrap (match op with | .and => a &&& b | .or => a ||| b | .xor => a ^^^ b | _ => a &&& ~~~b).toNat
def shI (k : IntKind) (y : Int) : Nat := min y.toNat k.bits
def binA (op : BinOp) : AV → AV → Option (Prop × AV)
  | .int k a, .int k' b =>
    match op with
    | .shl => some (0 ≤ b, .int k (k.wrap (a * 2 ^ shI k b)))
    | .shr => some (0 ≤ b, .int k (a.fdiv (2 ^ shI k b)))
    | op => if k = k' then (match op with
      | .add => some (arI k (a + b))
      | .sub => some (arI k (a - b))
      | .mul => some (arI k (a * b))
      | .quo => some (b ≠ 0 ∧ (arI k (a.tdiv b)).1, (arI k (a.tdiv b)).2)
      | .rem => some (b ≠ 0, .int k (a.tmod b))
      | .and => some (True, .int k (bitsI .and k a b))
      | .or => some (True, .int k (bitsI .or k a b))
      | .xor => some (True, .int k (bitsI .xor k a b))
      | .andNot => some (True, .int k (bitsI .andNot k a b))
      | .eql => some (True, .bool (decide (a = b)))
      | .neq => some (True, .bool (!decide (a = b)))
      | .lss => some (True, .bool (decide (a < b)))
      | .leq => some (True, .bool (decide (a ≤ b)))
      | .gtr => some (True, .bool (decide (b < a)))
      | .geq => some (True, .bool (decide (b ≤ a)))
      | _ => none) else none
  | .bool a, .bool b => match op with
    | .eql => some (True, .bool (a == b))
    | .neq => some (True, .bool (!(a == b)))
    | _ => none
  | .str a, .str b => match op with
    | .eql => some (True, .bool (a.toList == b.toList))
    | .neq => some (True, .bool (!(a.toList == b.toList)))
    | _ => none
  | _, _ => none
def plainV : AV → Option Value
  | .int k n => some (.int k n)
  | .bool b => some (.bool b)
  | .str s => some (.string s)
  | _ => none
/-- Are rows of plain cells equal? -/
def eqCells : List AV → List AV → Bool
  | [], [] => true
  | .int _ a :: xs, .int _ b :: ys => decide (a = b) && eqCells xs ys
  | .bool a :: xs, .bool b :: ys => (a == b) && eqCells xs ys
  | .str a :: xs, .str b :: ys => (a.toList == b.toList) && eqCells xs ys
  | _, _ => false
def eqVC (P : Program) (t : TypeId) (xs ys : List AV) : Prop :=
  P.keyTypeAt 8 t = true ∧ P.eqGuardType P.depth t = false ∧ ∃ vx vy D D' la lb, xs.mapM plainV = some vx ∧ ys.mapM plainV = some vy ∧ (Value.agg vx.toArray).formed P t = true ∧ (Value.agg vy.toArray).formed P t = true ∧
    P.keyLits D t vx = some la ∧ P.keyLits D' t vy = some lb ∧ (la = lb ↔ eqCells xs ys = true)
def binT (P : Program) (op : BinOp) (t : TypeId) (a b : AV) : Option (Prop × AV) :=
  match a, b with
  | .agg xs, .agg ys => match op with
    | .eql => some (eqVC P t xs ys, .bool (eqCells xs ys))
    | .neq => some (eqVC P t xs ys, .bool (!eqCells xs ys))
    | _ => none
  | .bool a, .bool b => match P.underlying t with
    | some .bool => binA op (.bool a) (.bool b)
    | _ => none
  | a, b => binA op a b
def pickA (x : Bool) : AV → AV → AV
  | .bool p, .bool q => .bool (bif x then p else q)
  | a, b => bif x then a else b
/-- Cells put at a place in a row. -/
def spl (row : List AV) (j : Nat) (cs : List AV) : List AV := row.take j ++ cs ++ row.drop (j + cs.length)
def cellsQ : AV → Option (List AV)
  | .agg cs => some cs
  | .tup _ | .junk => none
  | v => some [v]
/-- One cell, or a row of cells, read from cells. -/
def rdC (l : Option Nat) (cells : List AV) : Prop × AV := match l with
  | none => (0 < cells.length, cells.headD .junk)
  | some n => (n ≤ cells.length, .agg (cells.take n))
/-- Parts laid into a row of cells, each at its place. -/
def fillG (place : Nat → Option (Nat × Nat)) : List AV → List (Nat × AV) → Option (List AV)
  | cells, [] => some cells
  | cells, (f, v) :: rest => match place f, cellsQ v with
    | some (off, n), some cs => if cs.length = n ∧ off + n ≤ cells.length then fillG place (spl cells off cs) rest else none
    | _, _ => none
def partsA (ρ : Operand → Option AV) (ps : Array (Nat × Operand)) : Option (List (Nat × AV)) := ps.toList.mapM fun (i, x) => (ρ x).map fun v => (i, v)
/-- A field's place and size. -/
def fpI (P : Program) (s : TypeId) (f : Nat) : Option (Nat × Nat) :=
  match P.underlying s with
  | some (.struct fs) => (fs[f]?).bind fun x => (szI P x.type).map fun n => (x.offset, n)
  | _ => none
def bound (ρ : Operand → Option AV) (d : Int) : Option Operand → Option Int
  | none => some d
  | some x => match ρ x with
    | some (.int _ n) => some n
    | _ => none
def lenA : AV → Option Nat
  | .sl _ _ _ len _ => some len
  | .ro _ rows => some rows.length
  | .nils => some 0
  | .str s => some s.size
  | _ => none

/-- The built-in functions that write nothing. -/
def evB (P : Program) (ρ : Operand → Option AV) : Builtin → List Operand → List TypeId → Option (Prop × AV × Option Blk)
  | .len, [x], [t] => match P.underlying t, (ρ x).bind lenA with
    | some .string, some n => (match ρ x with | some (.str _) => some (True, .int .i64 n, none) | _ => none)
    | some (.slice _), some n => (match ρ x with | some (.str _) => none | _ => some (True, .int .i64 n, none))
    | _, _ => none
  | .min, [x, y], _ => match ρ x, ρ y with
    | some (.int k a), some (.int _ b) => some (True, .int k (if b < a then b else a), none)
    | _, _ => none
  | .max, [x, y], _ => match ρ x, ρ y with
    | some (.int k a), some (.int _ b) => some (True, .int k (if b > a then b else a), none)
    | _, _ => none
  | _, _, _ => none
/-- The operations that write nothing (but what they make): what is owed, what they yield, what they make. -/
def evO (P : Program) (ρ : Operand → Option AV) (H : List (Option Blk)) (slot : Nat) : Op → Option (Prop × AV × Option Blk)
  | .move x | .assign x => (ρ x).map fun v => (True, v, none)
  | .pick c a b => match ρ c, ρ a, ρ b with
    | some (.bool x), some va, some vb => some (True, pickA x va vb, none)
    | _, _, _ => none
  | .extract t ix => match ρ t with
    | some (.tup vs) => (vs[ix]?).map fun v => (True, v, none)
    | _ => none
  | .nilCheck x => match ρ x with
    | some (.ptr a b c d) => some (True, .ptr a b c d, none)
    | some (.rptr cs) => some (True, .rptr cs, none)
    | some (.fn f cap) => some (True, .fn f cap, none)
    | _ => none
  | .unOp op _ x => match op, ρ x with
    | .not, some (.bool b) => some (True, .bool (!b), none)
    | .neg, some (.int k n) => some ((arI k (0 - n)).1, (arI k (0 - n)).2, none)
    | _, _ => none
  | .binOp op t x y _ => match ρ x, ρ y with
    | some a, some b => (binT P op t a b).map fun (c, v) => (c, v, none)
    | _, _ => none
  | .convert src dst x => match P.underlying src, P.underlying dst, ρ x with
    | some _, some (.int k), some (.int _ n) => some (True, .int k (k.wrap n), none)
    | _, _, _ => none
  | .fieldAddr s x f => match flI P s f, ρ x with
    | some (off, _), some (.ptr id s i j) => some (True, .ptr id s i (j + off), none)
    | some (off, _), some (.rptr cs) => some (True, .rptr (cs.drop off), none)
    | _, _ => none
  | .field s x f => match flI P s f, ρ x with
    | some (off, l), some (.agg cs) => some ((rdC l (cs.drop off)).1, (rdC l (cs.drop off)).2, none)
    | _, _ => none
  | .indexAddr t x i => match ixI P t, ρ x, ρ i with
    | some (none, es), some (.sl id s off len _), some (.int _ n) => if es = s then some (0 ≤ n ∧ n < len, .ptr id s (off + n.toNat) 0, none) else none
    | some (none, es), some (.ro s rows), some (.int _ n) => if es = s then some (0 ≤ n ∧ n < rows.length, .rptr (rows.getD n.toNat []), none) else none
    | some (some k, es), some (.ptr id s i j), some (.int _ n) => some (0 ≤ n ∧ n < k, .ptr id s i (j + n.toNat * es), none)
    | some (some k, es), some (.rptr cs), some (.int _ n) => some (0 ≤ n ∧ n < k, .rptr (cs.drop (n.toNat * es)), none)
    | _, _, _ => none
  | .load t p => match ldI P t, ρ p with
    | some l, some (.rptr cs) => some ((rdC l cs).1, (rdC l cs).2, none)
    | some l, some (.ptr id s i j) => match H[id]? with
      | some (some b) => if b.s = s then some (i < b.rows.length ∧ (rdC l ((b.rows.getD i []).drop j)).1, (rdC l ((b.rows.getD i []).drop j)).2, none) else none
      | _ => none
    | _, _ => none
  | .alloc t => match zrI P t with
    | some z => some (True, .ptr slot z.length 0 0, some ⟨z.length, [z]⟩)
    | none => none
  | .box _ x => ((ρ x).bind cellsQ).map fun cs => (True, .ptr slot cs.length 0 0, some ⟨cs.length, [cs]⟩)
  | .build t ps => match P.underlying t, zrI P t, partsA ρ ps with
    | some (.struct fs), some z, some l => if fs.all (fun f => (szI P f.type).isSome) then (fillG (fpI P t) z l).map (fun cs => (True, .agg cs, none)) else none
    | some (.array _ e), some z, some l => (szI P e).bind fun es => (fillG (fun i => some (i * es, es)) z l).map fun cs => (True, .agg cs, none)
    | _, _, _ => none
  | .buildSlice t n ps => match elI P t, partsA ρ ps with
    | some (es, _, z), some l => if n * es ≤ 1024 ∧ 0 < n ∧ 0 < es then (fillG (fun i => some (i * es, es)) (List.replicate n z).flatten l).map fun cs => (True, .sl slot es 0 n n, some ⟨es, (List.range n).map fun i => (cs.drop (i * es)).take es⟩) else none
    | _, _ => none
  | .makeSlice t l c => match elI P t, ρ l, ρ c with
    | some (es, by_, z), some (.int _ l), some (.int _ c) => if 0 < es then some (0 ≤ l ∧ l ≤ c ∧ by_ * c ≤ 140737488355328 ∧ c ≤ 140737488355328, .sl slot es 0 l.toNat c.toNat, some ⟨es, List.replicate c.toNat z⟩) else none
    | _, _, _ => none
  | .slice t x lo hi none => match ρ x with
    | some (.str s) => match P.underlying t, bound ρ 0 lo, bound ρ s.size hi with
      | some .string, some l, some h => some (0 ≤ l ∧ l ≤ h ∧ h ≤ s.size, .str (s.extract l.toNat h.toNat), none)
      | _, _, _ => none
    | some (.sl id s off len m) => match ixI P t, bound ρ 0 lo, bound ρ len hi with
      | some (none, es), some l, some h => if es = s then some (0 ≤ l ∧ l ≤ h ∧ h ≤ m, .sl id s (off + l.toNat) (h - l).toNat (m - l.toNat), none) else none
      | _, _, _ => none
    | some (.ro s rows) => match ixI P t, bound ρ 0 lo, bound ρ rows.length hi with
      | some (none, es), some l, some h => if es = s then some (0 ≤ l ∧ l ≤ h ∧ h ≤ rows.length, .ro s ((rows.take h.toNat).drop l.toNat), none) else none
      | _, _, _ => none
    | some .nils => match ixI P t, bound ρ 0 lo, bound ρ 0 hi with
      | some (none, _), some l, some h => some (l = 0 ∧ h = 0, .nils, none)
      | _, _, _ => none
    | _ => none
  | .slice t x lo hi (some mx) => match ρ x, hi, ixI P t, bound ρ 0 lo, bound ρ 0 hi, bound ρ 0 (some mx) with
    | some (.sl id s off _ m), some _, some (none, es), some l, some h, some k => if es = s then some (0 ≤ l ∧ l ≤ h ∧ h ≤ k ∧ k ≤ m, .sl id s (off + l.toNat) (h - l).toNat (k - l).toNat, none) else none
    | some (.ro s rows), some _, some (none, es), some l, some h, some k => if es = s then some (l = 0 ∧ h = 0 ∧ k = 0, .nils, none) else none
    | some .nils, some _, some (none, _), some l, some h, some k => some (l = 0 ∧ h = 0 ∧ k = 0, .nils, none)
    | _, _, _, _, _, _ => none
  | .makeFunc f fi cap => match f, fi.toList with
    | .func f, [] => (cap.toList.mapM ρ).map fun vs => (True, .fn f vs, none)
    | _, _ => none
  | .call c => match c.callee with
    | .builtin b => evB P ρ b c.args.toList c.argTypes.toList
    | _ => none
  | _ => none
end Go.Aw

/- What an abstract value says of the value; the operations that neither write nor make anything. -/
set_option linter.unusedVariables false
namespace Go.Aw
open Go

section inv
variable {w : World} {ι : Imap} {F : Nat → Prop}

theorem VR.bool_ {b : Bool} {u : Value} (h : VR w ι F (.bool b) u) : u = .bool b := by cases h with | fr h => cases h; rfl
theorem VR.int_ {k : IntKind} {n : Int} {u : Value} (h : VR w ι F (.int k n) u) : u = .int k n := by cases h with | fr h => cases h; rfl
theorem VR.float_ {k : FloatKind} {n : Nat} {u : Value} (h : VR w ι F (.float k n) u) : u = .float k n := by cases h with | fr h => cases h; rfl
theorem VR.str_ {s : ByteArray} {u : Value} (h : VR w ι F (.str s) u) : u = .string s := by cases h with | fr h => cases h; rfl
theorem VR.nils_ {u : Value} (h : VR w ι F .nils u) : ∃ oa, u = .slice oa 0 0 := by cases h with | fr h => cases h; exact ⟨_, rfl⟩
theorem VR.nilp_ {u : Value} (h : VR w ι F .nilp u) : u = .pointer none := by cases h with | fr h => cases h; rfl
theorem VR.ro_ {s : Nat} {rows : List (List AV)} {u : Value} (h : VR w ι F (.ro s rows) u) : ∃ (oa : Option Addr) (cap : Nat) (vals : Nat → Nat → Value), u = .slice oa rows.length cap ∧ (rows.length ≤ cap ∧ rows.length ≤ 140737488355328) ∧ (∀ i j, i < rows.length → j < s → (vals i j).oneCell' = true) ∧
    (∀ (i : Nat) (row : List AV), rows[i]? = some row → row.length = s ∧ ∃ a, oa = some a ∧ a.spot = none ∧ F a.block ∧ ∀ j, j < s → w.cell? ⟨a.block, a.off + i * s + j, none⟩ = some (vals i j)) ∧
    ∀ (i : Nat) (row : List AV) (j : Nat) (c : AV), rows[i]? = some row → row[j]? = some c → FR w F c (vals i j) := by
  cases h with | fr h => cases h with | ro _ _ oa cap vals h1 h2 h4 h3 => exact ⟨oa, cap, vals, rfl, h1, h4, h2, h3⟩
theorem VR.rptr_ {cells : List AV} {u : Value} (h : VR w ι F (.rptr cells) u) : ∃ (a : Addr) (vals : Nat → Value), u = .pointer (some a) ∧ a.spot = none ∧ F a.block ∧ (∀ j, j < cells.length → (vals j).oneCell' = true) ∧
    (∀ j, j < cells.length → w.cell? ⟨a.block, a.off + j, none⟩ = some (vals j)) ∧ ∀ (j : Nat) (c : AV), cells[j]? = some c → FR w F c (vals j) := by
  cases h with | fr h => cases h with | rptr _ a vals h1 h2 h3 h5 h4 => exact ⟨a, vals, rfl, h1, h2, h5, h3, h4⟩
theorem VR.sl_ {id s off len m : Nat} {u : Value} (h : VR w ι F (.sl id s off len m) u) : (∃ oa, len = 0 ∧ m = 0 ∧ u = .slice oa 0 0) ∨
    ∃ cap g base n e, ι id = some (g, base) ∧ w.shape? g = some (e, n) ∧ len ≤ m ∧ (m ≤ cap ∧ m ≤ 140737488355328) ∧ base + (off + cap) * s ≤ n ∧ u = .slice (some ⟨g, base + off * s, none⟩) len cap := by
  cases h with
  | fr h => cases h
  | sl0 id s off oa => exact .inl ⟨oa, rfl, rfl, rfl⟩
  | sl id s off len m cap g base n e h1 h2 h3 h4 h5 => exact .inr ⟨cap, g, base, n, e, h1, h2, h3, h4, h5, rfl⟩
theorem VR.ptr_ {id s i j : Nat} {u : Value} (h : VR w ι F (.ptr id s i j) u) : ∃ g base, ι id = some (g, base) ∧ u = .pointer (some ⟨g, base + i * s + j, none⟩) := by
  cases h with
  | fr h => cases h
  | ptr id s i j g base h1 => exact ⟨g, base, h1, rfl⟩
/-- Rows of cells, one by one. -/
def CR (w : World) (ι : Imap) (F : Nat → Prop) (cs : List AV) (us : Array Value) : Prop := cs.length = us.size ∧ ∀ (j : Nat) (c : AV), cs[j]? = some c → ∃ x, us[j]? = some x ∧ x.oneCell' = true ∧ VR w ι F c x
theorem VR.agg_ {cs : List AV} {u : Value} (h : VR w ι F (.agg cs) u) : ∃ us : Array Value, u = .agg us ∧ CR w ι F cs us := by
  cases h with
  | fr h => cases h with | agg _ vs h1 vals h2 h4 h3 => exact ⟨vs, rfl, h1, fun j c hc => ⟨_, h2 j (List.getElem?_eq_some_iff.1 hc).1, h4 j (List.getElem?_eq_some_iff.1 hc).1, .fr (h3 j c hc)⟩⟩
  | agg _ vs h1 vals h2 h4 h3 => exact ⟨vs, rfl, h1, fun j c hc => ⟨_, h2 j (List.getElem?_eq_some_iff.1 hc).1, h4 j (List.getElem?_eq_some_iff.1 hc).1, h3 j c hc⟩⟩
theorem VR.tup_ {cs : List AV} {u : Value} (h : VR w ι F (.tup cs) u) : ∃ us : Array Value, u = .tuple us ∧ cs.length = us.size ∧ ∀ (j : Nat) (c : AV), cs[j]? = some c → ∃ x, us[j]? = some x ∧ VR w ι F c x := by
  cases h with
  | fr h => cases h with | tup _ vs h1 vals h2 h3 => exact ⟨vs, rfl, h1, fun j c hc => ⟨_, h2 j (List.getElem?_eq_some_iff.1 hc).1, .fr (h3 j c hc)⟩⟩
  | tup _ vs h1 vals h2 h3 => exact ⟨vs, rfl, h1, fun j c hc => ⟨_, h2 j (List.getElem?_eq_some_iff.1 hc).1, h3 j c hc⟩⟩
theorem VR.fn_ {f : FuncId} {cs : List AV} {u : Value} (h : VR w ι F (.fn f cs) u) : ∃ us : Array Value, u = .func (.func f) #[] us ∧ cs.length = us.size ∧ ∀ (j : Nat) (c : AV), cs[j]? = some c → ∃ x, us[j]? = some x ∧ VR w ι F c x := by
  cases h with
  | fr h => cases h with | fn _ _ vs h1 vals h2 h3 => exact ⟨vs, rfl, h1, fun j c hc => ⟨_, h2 j (List.getElem?_eq_some_iff.1 hc).1, .fr (h3 j c hc)⟩⟩
  | fn _ _ vs h1 vals h2 h3 => exact ⟨vs, rfl, h1, fun j c hc => ⟨_, h2 j (List.getElem?_eq_some_iff.1 hc).1, h3 j c hc⟩⟩

theorem VR.mk_agg {cs : List AV} {us : Array Value} (h : CR w ι F cs us) : VR w ι F (.agg cs) (.agg us) := by
  obtain ⟨hl, h⟩ := h
  refine .agg cs us hl (fun j => us.getD j default) (fun j hj => by simp [Array.getElem?_eq_getElem (show j < us.size by omega)]) (fun j hj => ?_) fun j c hc => ?_
  · obtain ⟨x, hx, h1, hv⟩ := h j cs[j] (List.getElem?_eq_getElem hj)
    simpa [hx] using h1
  · obtain ⟨x, hx, h1, hv⟩ := h j c hc
    simpa [hx] using hv
theorem VR.mk_tup {cs : List AV} {us : Array Value} (hl : cs.length = us.size) (h : ∀ (j : Nat) (c : AV), cs[j]? = some c → ∃ x, us[j]? = some x ∧ VR w ι F c x) : VR w ι F (.tup cs) (.tuple us) :=
  .tup cs us hl (fun j => us.getD j default) (fun j hj => by simp [Array.getElem?_eq_getElem (show j < us.size by omega)]) fun j c hc => by
    obtain ⟨x, hx, hv⟩ := h j c hc
    simpa [hx] using hv
theorem VR.mk_fn {f : FuncId} {cs : List AV} {us : Array Value} (hl : cs.length = us.size) (h : ∀ (j : Nat) (c : AV), cs[j]? = some c → ∃ x, us[j]? = some x ∧ VR w ι F c x) : VR w ι F (.fn f cs) (.func (.func f) #[] us) :=
  .fn f cs us hl (fun j => us.getD j default) (fun j hj => by simp [Array.getElem?_eq_getElem (show j < us.size by omega)]) fun j c hc => by
    obtain ⟨x, hx, hv⟩ := h j c hc
    simpa [hx] using hv

/-- What is no row of cells stands for one cell. -/
theorem FR.one {c : AV} {u : Value} (h : FR w F c u) (hq : cellsQ c = some [c]) : u.oneCell' = true := by
  cases h <;> first | rfl | (simp [cellsQ] at hq; done) | (simp [cellsQ] at hq; have := congrArg (fun l : List AV => SizeOf.sizeOf l) hq; simp at this; omega)
theorem VR.one {c : AV} {u : Value} (h : VR w ι F c u) (hq : cellsQ c = some [c]) : u.oneCell' = true := by
  cases h with
  | fr h => exact h.one hq
  | agg cs => simp [cellsQ] at hq; have := congrArg (fun l : List AV => SizeOf.sizeOf l) hq; simp at this; omega
  | _ => first | rfl | simp [cellsQ] at hq
theorem cellsQ_cr {c : AV} {cs : List AV} {u : Value} (h : VR w ι F c u) (hq : cellsQ c = some cs) : CR w ι F cs u.cells := by
  by_cases hc : ∃ l, c = .agg l
  · obtain ⟨l, rfl⟩ := hc
    simp only [cellsQ, Option.some.injEq] at hq
    subst hq
    obtain ⟨us, rfl, hcr⟩ := h.agg_
    exact hcr
  · have e : cs = [c] := by
      cases c <;> simp [cellsQ] at hq <;> first | exact hq.symm | exact absurd ⟨_, rfl⟩ hc
    subst e
    have h1 := h.one hq
    have e2 : u.cells = #[u] := by cases u <;> first | rfl | simp [Value.oneCell'] at h1
    rw [e2]
    refine ⟨rfl, fun j x hx => ?_⟩
    cases j with
    | zero => simp at hx; subst hx; exact ⟨u, rfl, h1, h⟩
    | succ j => simp at hx
theorem VR.bool (b : Bool) : VR w ι F (.bool b) (.bool b) := .fr (.bool b)
theorem VR.int (k : IntKind) (n : Int) : VR w ι F (.int k n) (.int k n) := .fr (.int k n)
theorem VR.str (s : ByteArray) : VR w ι F (.str s) (.string s) := .fr (.str s)

theorem cellA_sound {v : Value} {c : AV} (h : cellA v = some c) : FR w F c v := by
  unfold cellA at h
  split at h <;> simp at h <;> subst h <;> constructor
theorem cellA_one {v : Value} {c : AV} (h : cellA v = some c) : v.oneCell' = true := by
  unfold cellA at h
  split at h <;> simp at h <;> rfl
theorem mapM_some {α β : Type} {f : α → Option β} : ∀ {l : List α} {r : List β}, l.mapM f = some r → l.length = r.length ∧ ∀ (j : Nat) (y : β), r[j]? = some y → ∃ x, l[j]? = some x ∧ f x = some y := by
  intro l
  induction l with
  | nil => intro r h; simp at h; subst h; simp
  | cons a l ih =>
    intro r h
    rw [List.mapM_cons] at h
    simp only [Option.bind_eq_bind, Option.pure_def] at h
    rcases ha : f a with _ | b
    · rw [ha] at h; simp at h
    · rw [ha] at h
      rcases hl : l.mapM f with _ | r'
      · rw [hl] at h; simp at h
      · rw [hl] at h
        simp at h
        subst h
        obtain ⟨h1, h2⟩ := ih hl
        refine ⟨by simp [h1], fun j y hy => ?_⟩
        cases j with
        | zero => simp at hy; subst hy; exact ⟨a, rfl, ha⟩
        | succ j => simp at hy; simpa using h2 j y hy
theorem valA_sound {v : Value} {c : AV} (h : valA v = some c) : VR w ι F c v := by
  unfold valA at h
  split at h
  · rename_i cs
    rw [Option.map_eq_some_iff] at h
    obtain ⟨l, hl, rfl⟩ := h
    obtain ⟨h1, h2⟩ := mapM_some hl
    exact .mk_agg ⟨by simpa using h1.symm, fun j c hc => by
      obtain ⟨x, hx, hf⟩ := h2 j c hc
      exact ⟨x, by simpa using hx, cellA_one hf, .fr (cellA_sound hf)⟩⟩
  · rename_i cs
    rw [Option.map_eq_some_iff] at h
    obtain ⟨l, hl, rfl⟩ := h
    obtain ⟨h1, h2⟩ := mapM_some hl
    exact .mk_tup (by simpa using h1.symm) fun j c hc => by
      obtain ⟨x, hx, hf⟩ := h2 j c hc
      exact ⟨x, by simpa using hx, .fr (cellA_sound hf)⟩
  · exact .fr (cellA_sound h)
end inv

/-- An operand, abstractly. -/
def ev (G : Glob) (T : Nat → Option AV) : Operand → Option AV
  | .tmp t => T t
  | .const v => valA v
  | .global g => (G g).map .rptr
  | .func f => some (.fn f [])

theorem ev_sound {G : Glob} {w : World} {ι : Imap} {F : Nat → Prop} {T : Nat → Option AV} {a : Act} (ht : RelT w ι F T a) (hg : RelG G w F) (x : Operand) (v : AV) (h : ev G T x = some v) : VR w ι F v (a.eval x) := by
  cases x with
  | tmp t =>
    obtain ⟨u, hu, hv⟩ := ht t v h
    simpa [Act.eval, hu] using hv
  | const c => exact valA_sound h
  | global g =>
    simp only [ev, Option.map_eq_some_iff] at h
    obtain ⟨cs, hcs, rfl⟩ := h
    obtain ⟨hF, vals, h1, h2⟩ := hg g cs hcs
    exact .fr (.rptr cs ⟨g, 0, none⟩ vals rfl hF (fun j hj => by simpa using (h1 j hj).1) (fun j hj => (h1 j hj).2) h2)
  | func f =>
    simp only [ev, Option.some.injEq] at h
    subst h
    exact .mk_fn (by simp) (by simp)
end Go.Aw

/- The operations that neither write nor make anything: what evO says is so. -/
set_option linter.unusedVariables false
set_option linter.unusedSimpArgs false
namespace Go.Aw
open Go

section
variable {P : Program} {w : World} {ι : Imap} {F : Nat → Prop} {ρ : Operand → Option AV} {r : Operand → Value}

theorem run_typeInfo' {t : TypeId} {i : TypeInfo} (h : P.info? t = some i) (w : World) : (typeInfo t).run P w = .ok i w := by simp [typeInfo, h]
theorem run_sizeOf' {t : TypeId} {i : TypeInfo} (h : P.info? t = some i) (w : World) : (sizeOf t).run P w = .ok i.size w := by simp [sizeOf, typeInfo, h]

theorem wrap_i64 {n : Int} (h : inI n) : IntKind.i64.wrap n = n := by
  unfold inI at h
  simp only [IntKind.wrap, IntKind.bits, IntKind.signed]
  simp
  split <;> omega

theorem arI_sound {k : IntKind} {n : Int} (h : (arI k n).1) : (arI k n).2 = .int k (k.wrap n) := by
  cases k <;> simp only [arI] at h ⊢
  rw [wrap_i64 h]

theorem beq_dec (a b : Int) : (a == b) = decide (a = b) := by rw [Bool.eq_iff_iff]; simp

theorem binA_sound {op : BinOp} {t : TypeId} {a b v : AV} {x y : Value} {c : Prop} (h : binA op a b = some (c, v)) (hc : c) (ha : VR w ι F a x) (hb : VR w ι F b y)
    (hbool : ∀ p, a = .bool p → P.underlying t = some .bool) :
    ∃ u, (binOp op t x y).run P w = .ok u w ∧ VR w ι F v u := by
  unfold binA at h
  split at h
  · have hx := ha.int_
    have hy := hb.int_
    subst hx hy
    rename_i k n k' n' 
    split at h
    · simp only [Option.some.injEq, Prod.mk.injEq] at h
      obtain ⟨rfl, rfl⟩ := h
      refine ⟨_, ?_, .int _ _⟩
      simp only [binOp, Op.shift]
      rw [if_neg (by omega)]
      rfl
    · simp only [Option.some.injEq, Prod.mk.injEq] at h
      obtain ⟨rfl, rfl⟩ := h
      refine ⟨_, ?_, .int _ _⟩
      simp only [binOp, Op.shift]
      rw [if_neg (by omega)]
      rfl
    · rename_i hns1 hns2
      split at h
      · rename_i hk
        subst hk
        split at h <;> (try (simp at h; done)) <;> simp only [Option.some.injEq] at h
        · have e := congrArg Prod.fst h
          have e2 := congrArg Prod.snd h
          simp only at e e2
          subst e2
          rw [arI_sound (by rw [e]; exact hc)]
          exact ⟨_, by simp [binOp, Op.intArith], .int _ _⟩
        · have e := congrArg Prod.fst h
          have e2 := congrArg Prod.snd h
          simp only at e e2
          subst e2
          rw [arI_sound (by rw [e]; exact hc)]
          exact ⟨_, by simp [binOp, Op.intArith], .int _ _⟩
        · have e := congrArg Prod.fst h
          have e2 := congrArg Prod.snd h
          simp only at e e2
          subst e2
          rw [arI_sound (by rw [e]; exact hc)]
          exact ⟨_, by simp [binOp, Op.intArith], .int _ _⟩
        · simp only [Prod.mk.injEq] at h
          obtain ⟨rfl, rfl⟩ := h
          rw [arI_sound hc.2]
          exact ⟨_, by simp [binOp, Op.intDiv, hc.1], .int _ _⟩
        all_goals
          simp only [Prod.mk.injEq] at h
          obtain ⟨rfl, rfl⟩ := h
        · exact ⟨_, by simp [binOp, Op.intDiv, hc], .int _ _⟩
        · exact ⟨_, by simp [binOp, Op.intBits, bitsI], .int _ _⟩
        · exact ⟨_, by simp [binOp, Op.intBits, bitsI], .int _ _⟩
        · exact ⟨_, by simp [binOp, Op.intBits, bitsI], .int _ _⟩
        · exact ⟨_, by simp [binOp, Op.intBits, bitsI], .int _ _⟩
        · exact ⟨_, by simp [binOp, Op.intCmp, beq_dec], .bool _⟩
        · exact ⟨_, by simp [binOp, Op.intCmp, bne, beq_dec], .bool _⟩
        · exact ⟨_, by simp [binOp, Op.intCmp], .bool _⟩
        · exact ⟨_, by simp [binOp, Op.intCmp], .bool _⟩
        · exact ⟨_, by simp [binOp, Op.intCmp], .bool _⟩
        · exact ⟨_, by simp [binOp, Op.intCmp], .bool _⟩
      · simp at h
  · have hx := ha.bool_
    have hy := hb.bool_
    subst hx hy
    have hu := hbool _ rfl
    split at h <;> (try (simp at h; done)) <;> simp only [Option.some.injEq, Prod.mk.injEq] at h <;> obtain ⟨rfl, rfl⟩ := h
    · exact ⟨_, by simp [binOp, run_equal_bool w t _ _ hu], .bool _⟩
    · exact ⟨_, by simp [binOp, run_equal_bool w t _ _ hu], .bool _⟩
  · have hx := ha.str_
    have hy := hb.str_
    subst hx hy
    split at h <;> (try (simp at h; done)) <;> simp only [Option.some.injEq, Prod.mk.injEq] at h <;> obtain ⟨rfl, rfl⟩ := h
    · exact ⟨_, by simp [binOp, Op.stringOp], .bool _⟩
    · exact ⟨_, by simp [binOp, Op.stringOp], .bool _⟩
  · simp at h

theorem plain_agg {cs : List AV} {vs : List Value} {us : Array Value} (h : cs.mapM plainV = some vs) (hcr : CR w ι F cs us) : us = vs.toArray := by
  obtain ⟨hl, hv⟩ := hcr
  obtain ⟨h1, h2⟩ := mapM_some h
  apply Array.ext'
  simp only
  apply List.ext_getElem?
  intro j
  rcases Nat.lt_or_ge j vs.length with hj | hj
  · obtain ⟨c, hc, hp⟩ := h2 j vs[j] (List.getElem?_eq_getElem hj)
    obtain ⟨x, hx, _, hr⟩ := hv j c hc
    rw [Array.getElem?_toList, hx, List.getElem?_eq_getElem hj]
    unfold plainV at hp
    split at hp <;> simp at hp
    · rw [← hp, hr.int_]
    · rw [← hp, hr.bool_]
    · rw [← hp, hr.str_]
  · rw [List.getElem?_eq_none hj, List.getElem?_eq_none (by simp; omega)]

theorem eqVC_sound {t : TypeId} {xs ys : List AV} {x y : Value} (h : eqVC P t xs ys) (hx : VR w ι F (.agg xs) x) (hy : VR w ι F (.agg ys) y) :
    (Op.equal t x y).run P w = .ok (eqCells xs ys) w ∧ P.eqGuardType P.depth t = false ∧ (∃ us, x = .agg us) ∧ ∃ us, y = .agg us := by
  obtain ⟨hk, hg, vx, vy, D, D', la, lb, h1, h2, h3, h4, h5, h6, h7⟩ := h
  obtain ⟨ux, rfl, hvx⟩ := hx.agg_
  obtain ⟨uy, rfl, hvy⟩ := hy.agg_
  have e1 := plain_agg h1 hvx
  have e2 := plain_agg h2 hvy
  subst e1 e2
  obtain ⟨r, hr, hiff⟩ := run_equalIn_deep (P := P) 9992 8 t hk w D D' (.agg vx.toArray) (.agg vy.toArray) la lb h3 h4 h5 h6
  have : r = eqCells xs ys := by rw [Bool.eq_iff_iff, hiff, h7]
  subst this
  exact ⟨hr, hg, ⟨_, rfl⟩, ⟨_, rfl⟩⟩

theorem eqGuard_ok {op : BinOp} {t : TypeId} {xo yo : Operand} {a b v : AV} {x y : Value} {c : Prop} (h : binT P op t a b = some (c, v)) (hc : c) (ha : VR w ι F a x) (hb : VR w ι F b y) : (eqGuard op t xo yo x y).run P w = .ok () w := by
  unfold binT at h
  split at h
  · split at h <;> (try (simp at h; done)) <;> simp only [Option.some.injEq, Prod.mk.injEq] at h
    · obtain ⟨rfl, rfl⟩ := h
      obtain ⟨_, hg, ⟨ux, rfl⟩, uy, rfl⟩ := eqVC_sound hc ha hb
      exact run_eqGuard_agg w _ t xo yo ux uy hg
    · obtain ⟨rfl, rfl⟩ := h
      obtain ⟨_, hg, ⟨ux, rfl⟩, uy, rfl⟩ := eqVC_sound hc ha hb
      exact run_eqGuard_agg w _ t xo yo ux uy hg
  · rw [ha.bool_, hb.bool_]
    simp [eqGuard]
  · unfold binA at h
    split at h
    · rw [ha.int_, hb.int_]
      simp [eqGuard]
    · rw [ha.bool_, hb.bool_]
      simp [eqGuard]
    · rw [ha.str_, hb.str_]
      simp [eqGuard]
    · simp at h

theorem binT_sound {op : BinOp} {t : TypeId} {a b v : AV} {x y : Value} {c : Prop} (h : binT P op t a b = some (c, v)) (hc : c) (ha : VR w ι F a x) (hb : VR w ι F b y) :
    ∃ u, (binOp op t x y).run P w = .ok u w ∧ VR w ι F v u := by
  unfold binT at h
  split at h
  · split at h <;> (try (simp at h; done)) <;> simp only [Option.some.injEq, Prod.mk.injEq] at h
    · obtain ⟨rfl, rfl⟩ := h
      obtain ⟨hq, _, ⟨ux, rfl⟩, uy, rfl⟩ := eqVC_sound hc ha hb
      exact ⟨_, by simp [binOp, hq], .bool _⟩
    · obtain ⟨rfl, rfl⟩ := h
      obtain ⟨hq, _, ⟨ux, rfl⟩, uy, rfl⟩ := eqVC_sound hc ha hb
      exact ⟨_, by simp [binOp, hq], .bool _⟩
  · split at h
    · rename_i hu
      exact binA_sound h hc ha hb fun _ _ => hu
    · simp at h
  · rename_i hnb1 hnb
    refine binA_sound h hc ha hb fun p hp => ?_
    subst hp
    cases b with
    | bool q => exact (hnb _ _ rfl rfl).elim
    | _ => simp [binA] at h
end
end Go.Aw

/- evO is sound, operation by operation: those that make nothing. -/
set_option linter.unusedVariables false
set_option linter.unusedSimpArgs false
namespace Go.Aw
open Go

section
variable {P : Program} {w : World} {ι : Imap} {F : Nat → Prop} {H : List (Option Blk)} {slot : Nat} {ρ : Operand → Option AV} {r : Operand → Value} {c : Prop} {v : AV}

def Rho (w : World) (ι : Imap) (F : Nat → Prop) (ρ : Operand → Option AV) (r : Operand → Value) : Prop := ∀ x v, ρ x = some v → VR w ι F v (r x)
def Yld (P : Program) (w : World) (ι : Imap) (F : Nat → Prop) (r : Operand → Value) (o : Oper) (v : AV) : Prop := ∃ u, (execOp r o).run P w = .ok (.value u) w ∧ VR w ι F v u

theorem pickA_sound {x : Bool} {a b : AV} {u t : Value} (ha : VR w ι F a u) (hb : VR w ι F b t) : VR w ι F (pickA x a b) (if x then u else t) := by
  unfold pickA
  split
  · rw [ha.bool_, hb.bool_]
    cases x <;> exact .bool _
  · cases x
    · exact hb
    · exact ha

/-- A field that has cells: its place, its kind. -/
theorem flI_spec {s f off : Nat} {l : Option Nat} (h : flI P s f = some (off, l)) : ∃ (fs : Array Field) (x : Field) (i : TypeInfo), P.underlying s = some (.struct fs) ∧ fs[f]? = some x ∧ x.offset = off ∧ P.info? x.type = some i ∧ i.size ≠ 0 ∧ ldI P x.type = some l := by
  unfold flI at h
  split at h
  · rename_i fs hu
    rw [Option.bind_eq_some_iff] at h
    obtain ⟨x, hx, h⟩ := h
    split at h
    · rename_i k l' h1 h2
      simp only [Option.some.injEq, Prod.mk.injEq] at h
      obtain ⟨rfl, rfl⟩ := h
      unfold szI at h1
      rw [Option.map_eq_some_iff] at h1
      obtain ⟨i, hi, hs⟩ := h1
      exact ⟨fs, x, i, hu, hx, rfl, hi, by omega, h2⟩
    · simp at h
  · simp at h

theorem addr_add (a : Addr) (n : Nat) (h : a.spot = none) : a.add n = ⟨a.block, a.off + n, none⟩ := by
  unfold Addr.add
  split
  · subst n; cases a; simp_all
  · rfl

theorem run_fieldAt {s f off : Nat} {l : Option Nat} (h : flI P s f = some (off, l)) (a : Addr) (ha : a.spot = none) : (Instr.fieldAt s (.pointer (some a)) f).run P w = .ok (.pointer (some ⟨a.block, a.off + off, none⟩)) w := by
  obtain ⟨fs, x, i, hu, hx, rfl, hi, hs, _⟩ := flI_spec h
  simp [Instr.fieldAt, run_underlying hu, hx, Instr.sureAddr, fieldPlace, run_sizeOf' hi, hs, addr_add _ _ ha]

/-- What is loaded. -/
theorem ldI_none {t : TypeId} (h : ldI P t = some none) : (isAgg t).run P w = .ok false w := by
  unfold ldI at h
  split at h
  · simp at h
  · simp at h
  · rename_i d h1 h2 hd
    unfold isAgg
    simp only [Sem.run_bind, run_underlying hd, Result.andThen_ok]
    first
      | rfl
      | (split
         · exact (h1 _ rfl).elim
         · exact (h2 _ _ rfl).elim
         · rfl)
  · simp at h
theorem ldI_some {t : TypeId} {n : Nat} (h : ldI P t = some (some n)) : (isAgg t).run P w = .ok true w ∧ (sizeOf t).run P w = .ok n w := by
  unfold ldI at h
  split at h
  · rename_i fs hd
    rw [Option.map_eq_some_iff] at h
    obtain ⟨i, hi, hn⟩ := h
    simp only [Option.some.injEq] at hn
    subst hn
    exact ⟨by simp [isAgg, run_underlying hd], run_sizeOf' hi w⟩
  · rename_i k e hd
    rw [Option.map_eq_some_iff] at h
    obtain ⟨i, hi, hn⟩ := h
    simp only [Option.some.injEq] at hn
    subst hn
    exact ⟨by simp [isAgg, run_underlying hd], run_sizeOf' hi w⟩
  · simp at h
  · simp at h

theorem rdC_part {t : TypeId} {l : Option Nat} {cs : List AV} {us : Array Value} {off : Nat} (hl : ldI P t = some l) (hcr : CR w ι F cs us)
    (hc : (rdC l (cs.drop off)).1) : ∃ u, (part t us off).run P w = .ok u w ∧ VR w ι F (rdC l (cs.drop off)).2 u := by
  obtain ⟨hlen, hv⟩ := hcr
  cases l with
  | none =>
    simp only [rdC, List.length_drop] at hc ⊢
    obtain ⟨x, hx, _, hr⟩ := hv off cs[off] (List.getElem?_eq_getElem (by omega))
    refine ⟨x, by simp [part, ldI_none hl, hx], ?_⟩
    have e : (cs.drop off).headD AV.junk = cs[off] := by
      rw [List.headD_eq_head?_getD, List.head?_drop, List.getElem?_eq_getElem (by omega)]; rfl
    rw [e]
    exact hr
  | some n =>
    simp only [rdC, List.length_drop] at hc ⊢
    obtain ⟨h1, h2⟩ := ldI_some (w := w) hl
    refine ⟨.agg (us.extract off (off + n)), by simp [part, h1, h2], .mk_agg ⟨by simp; omega, fun j c hc' => ?_⟩⟩
    rw [List.getElem?_take, List.getElem?_drop] at hc'
    split at hc'
    · obtain ⟨x, hx, h1, hr⟩ := hv _ c hc'
      refine ⟨x, ?_, h1, hr⟩
      rw [Array.getElem?_extract]
      have hsz : off + j < us.size := by rw [← hlen]; exact (List.getElem?_eq_some_iff.1 hc').1
      rw [if_pos (by omega)]
      exact hx
    · simp at hc'

/-- What is loaded out of memory. -/
theorem rdC_load {t : TypeId} {l : Option Nat} {cs : List AV} {a : Addr} (hl : ldI P t = some l) (ha : a.spot = none)
    (hv : ∀ (j : Nat) (c : AV), cs[j]? = some c → ∃ x, w.cell? ⟨a.block, a.off + j, none⟩ = some x ∧ x.oneCell' = true ∧ VR w ι F c x) (hc : (rdC l cs).1) : ∃ u, (Instr.loadAt t (.pointer (some a))).run P w = .ok u w ∧ VR w ι F (rdC l cs).2 u := by
  cases l with
  | none =>
    simp only [rdC] at hc ⊢
    obtain ⟨x, hx, _, hr⟩ := hv 0 cs[0] (List.getElem?_eq_getElem hc)
    have hx' : w.cell? a = some x := by
      have e : (⟨a.block, a.off + 0, none⟩ : Addr) = a := by cases a; simp_all
      rwa [e] at hx
    refine ⟨x, by simp [Instr.loadAt, Instr.sureAddr, loadVar, ldI_none hl, hx'], ?_⟩
    have e : cs.headD AV.junk = cs[0] := by
      cases cs with
      | nil => simp at hc
      | cons a b => rfl
    rw [e]
    exact hr
  | some n =>
    simp only [rdC] at hc ⊢
    obtain ⟨h1, h2⟩ := ldI_some (w := w) hl
    have hcell : ∀ j, j < n → w.cell? (a.add j) = some ((w.cell? (a.add j)).getD default) := by
      intro j hj
      obtain ⟨x, hx, _⟩ := hv j cs[j] (List.getElem?_eq_getElem (by omega))
      rw [addr_add a j ha, hx]
      rfl
    have hrun := run_loadCells (P := P) (w := w) a n (fun j => (w.cell? (a.add j)).getD default) hcell
    refine ⟨_, by simp [Instr.loadAt, Instr.sureAddr, loadVar, h1, h2, hrun]; rfl, .mk_agg ⟨by simp; omega, fun j c hc' => ?_⟩⟩
    rw [List.getElem?_take] at hc'
    split at hc'
    · rename_i hj
      obtain ⟨x, hx, h4, hr⟩ := hv _ c hc'
      refine ⟨x, ?_, h4, hr⟩
      have h3 := hcell j hj
      rw [addr_add a j ha, hx] at h3
      simp [hj, addr_add a j ha, hx]
    · simp at hc'

/-! ### The operations -/
variable {dst : Option Tmp} {ty : TypeId} {pos : String} {aft : Array Edge} {gd : Option (Nat × Bool)}

theorem y_move {x : Operand} (hρ : Rho w ι F ρ r) (h : evO P ρ H slot (.move x) = some (c, v, none)) : Yld P w ι F r ⟨dst, .move x, ty, pos, aft, gd⟩ v := by
  simp only [evO, Option.map_eq_some_iff] at h
  obtain ⟨a, ha, h⟩ := h
  simp only [Prod.mk.injEq] at h
  obtain ⟨_, rfl, _⟩ := h
  exact ⟨r x, by simp [execOp], hρ x a ha⟩
theorem y_assign {x : Operand} (hρ : Rho w ι F ρ r) (h : evO P ρ H slot (.assign x) = some (c, v, none)) : Yld P w ι F r ⟨dst, .assign x, ty, pos, aft, gd⟩ v := by
  simp only [evO, Option.map_eq_some_iff] at h
  obtain ⟨a, ha, h⟩ := h
  simp only [Prod.mk.injEq] at h
  obtain ⟨_, rfl, _⟩ := h
  exact ⟨r x, by simp [execOp], hρ x a ha⟩
theorem y_pick {x y z : Operand} (hρ : Rho w ι F ρ r) (h : evO P ρ H slot (.pick x y z) = some (c, v, none)) : Yld P w ι F r ⟨dst, .pick x y z, ty, pos, aft, gd⟩ v := by
  simp only [evO] at h
  split at h
  · rename_i b va vb h1 h2 h3
    simp only [Option.some.injEq, Prod.mk.injEq] at h
    obtain ⟨_, rfl, _⟩ := h
    have e := (hρ x _ h1).bool_
    exact ⟨if b then r y else r z, by simp [execOp, e, asBool], pickA_sound (hρ y _ h2) (hρ z _ h3)⟩
  · simp at h
theorem y_extract {x : Operand} {k : Nat} (hρ : Rho w ι F ρ r) (h : evO P ρ H slot (.extract x k) = some (c, v, none)) : Yld P w ι F r ⟨dst, .extract x k, ty, pos, aft, gd⟩ v := by
  simp only [evO] at h
  split at h
  · rename_i vs h1
    rw [Option.map_eq_some_iff] at h
    obtain ⟨a, ha, h⟩ := h
    simp only [Prod.mk.injEq] at h
    obtain ⟨_, rfl, _⟩ := h
    obtain ⟨us, e, hl, hv⟩ := (hρ x _ h1).tup_
    obtain ⟨u, hu, hr⟩ := hv k a ha
    exact ⟨u, by simp [execOp, e, Instr.extract, hu], hr⟩
  · simp at h
theorem y_nilCheck {x : Operand} (hρ : Rho w ι F ρ r) (h : evO P ρ H slot (.nilCheck x) = some (c, v, none)) : Yld P w ι F r ⟨dst, .nilCheck x, ty, pos, aft, gd⟩ v := by
  simp only [evO] at h
  split at h
  · rename_i h1
    simp only [Option.some.injEq, Prod.mk.injEq] at h
    obtain ⟨_, rfl, _⟩ := h
    have hr := hρ x _ h1
    obtain ⟨g, base, _, e⟩ := hr.ptr_
    exact ⟨r x, by simp [execOp, e], hr⟩
  · rename_i h1
    simp only [Option.some.injEq, Prod.mk.injEq] at h
    obtain ⟨_, rfl, _⟩ := h
    have hr := hρ x _ h1
    obtain ⟨a, vals, e, _⟩ := hr.rptr_
    exact ⟨r x, by simp [execOp, e], hr⟩
  · rename_i h1
    simp only [Option.some.injEq, Prod.mk.injEq] at h
    obtain ⟨_, rfl, _⟩ := h
    have hr := hρ x _ h1
    obtain ⟨us, e, _⟩ := hr.fn_
    exact ⟨r x, by simp [execOp, e], hr⟩
  · simp at h
theorem y_unOp {op : UnOp} {t : TypeId} {x : Operand} (hρ : Rho w ι F ρ r) (h : evO P ρ H slot (.unOp op t x) = some (c, v, none)) (hc : c) : Yld P w ι F r ⟨dst, .unOp op t x, ty, pos, aft, gd⟩ v := by
  simp only [evO] at h
  split at h
  · rename_i b h1
    simp only [Option.some.injEq, Prod.mk.injEq] at h
    obtain ⟨_, rfl, _⟩ := h
    exact ⟨.bool (!b), by simp [execOp, (hρ x _ h1).bool_, Op.unary], .bool _⟩
  · rename_i k n h1
    simp only [Option.some.injEq, Prod.mk.injEq] at h
    obtain ⟨rfl, rfl, _⟩ := h
    rw [arI_sound hc]
    exact ⟨.int k (k.wrap (0 - n)), by simp [execOp, (hρ x _ h1).int_, Op.unary, Op.intArith], .int _ _⟩
  · simp at h
theorem y_binOp {op : BinOp} {t u : TypeId} {x y : Operand} (hρ : Rho w ι F ρ r) (h : evO P ρ H slot (.binOp op t x y u) = some (c, v, none)) (hc : c) : Yld P w ι F r ⟨dst, .binOp op t x y u, ty, pos, aft, gd⟩ v := by
  simp only [evO] at h
  split at h
  · rename_i a b h1 h2
    rw [Option.map_eq_some_iff] at h
    obtain ⟨⟨c', v'⟩, hb, h⟩ := h
    simp only [Prod.mk.injEq] at h
    obtain ⟨rfl, rfl, _⟩ := h
    obtain ⟨z, hz, hr⟩ := binT_sound (t := t) hb hc (hρ x _ h1) (hρ y _ h2)
    have hg := eqGuard_ok (xo := x) (yo := y) hb hc (hρ x _ h1) (hρ y _ h2)
    exact ⟨z, by simp [execOp, hg, hz], hr⟩
  · simp at h
theorem y_convert {s t : TypeId} {x : Operand} (hρ : Rho w ι F ρ r) (h : evO P ρ H slot (.convert s t x) = some (c, v, none)) : Yld P w ι F r ⟨dst, .convert s t x, ty, pos, aft, gd⟩ v := by
  simp only [evO] at h
  split at h
  · rename_i d1 k k' n h1 h2 h3
    simp only [Option.some.injEq, Prod.mk.injEq] at h
    obtain ⟨_, rfl, _⟩ := h
    refine ⟨_, ?_, .int _ _⟩
    have e := (hρ x _ h3).int_
    simp [execOp, e, convert, run_underlying h1, run_underlying h2, Conv.intToInt]
  · simp at h
theorem y_fieldAddr {s : TypeId} {x : Operand} {f : Nat} (hρ : Rho w ι F ρ r) (h : evO P ρ H slot (.fieldAddr s x f) = some (c, v, none)) : Yld P w ι F r ⟨dst, .fieldAddr s x f, ty, pos, aft, gd⟩ v := by
  simp only [evO] at h
  split at h
  · rename_i off l id s' i j h1 h2
    simp only [Option.some.injEq, Prod.mk.injEq] at h
    obtain ⟨_, rfl, _⟩ := h
    obtain ⟨g, base, hi, e⟩ := (hρ x _ h2).ptr_
    refine ⟨.pointer (some ⟨g, base + i * s' + j + off, none⟩), by simp only [execOp, e]; simp [run_fieldAt h1 ⟨g, base + i * s' + j, none⟩ rfl], ?_⟩
    have := VR.ptr (w := w) (F := F) id s' i (j + off) g base hi
    rwa [← Nat.add_assoc] at this
  · rename_i off l cs h1 h2
    simp only [Option.some.injEq, Prod.mk.injEq] at h
    obtain ⟨_, rfl, _⟩ := h
    obtain ⟨a, vals, e, hs, hF, hone, hcell, hrel⟩ := (hρ x _ h2).rptr_
    refine ⟨.pointer (some ⟨a.block, a.off + off, none⟩), by simp only [execOp, e]; simp [run_fieldAt h1 a hs], .fr (.rptr _ _ (fun j => vals (off + j)) rfl hF (fun j hj => ?_) (fun j hj => hone _ (by simp only [List.length_drop] at hj; omega)) fun j c hc => ?_)⟩
    · simp only [List.length_drop] at hj
      have := hcell (off + j) (by omega)
      rw [← Nat.add_assoc] at this
      exact this
    · rw [List.getElem?_drop] at hc
      exact hrel _ _ hc
  · simp at h
theorem y_field {s : TypeId} {x : Operand} {f : Nat} (hρ : Rho w ι F ρ r) (h : evO P ρ H slot (.field s x f) = some (c, v, none)) (hc : c) : Yld P w ι F r ⟨dst, .field s x f, ty, pos, aft, gd⟩ v := by
  simp only [evO] at h
  split at h
  · rename_i off l cs h1 h2
    simp only [Option.some.injEq, Prod.mk.injEq] at h
    obtain ⟨rfl, rfl, _⟩ := h
    obtain ⟨us, e, hcr⟩ := (hρ x _ h2).agg_
    obtain ⟨fs, y, i, hu, hy, rfl, hi, hsz, hld⟩ := flI_spec h1
    obtain ⟨u, hu', hr⟩ := rdC_part hld hcr hc
    exact ⟨u, by simp [execOp, e, Instr.field, run_underlying hu, hy, asAgg, hu'], hr⟩
  · simp at h
theorem ixI_slice {t : TypeId} {es : Nat} (h : ixI P t = some (none, es)) : ∃ e i, P.underlying t = some (.slice e) ∧ P.info? e = some i ∧ i.size = es := by
  unfold ixI at h
  split at h
  · rename_i e hu
    rw [Option.map_eq_some_iff] at h
    obtain ⟨i, hi, h⟩ := h
    simp only [Prod.mk.injEq, true_and] at h
    exact ⟨e, i, hu, hi, h⟩
  · rw [Option.map_eq_some_iff] at h
    obtain ⟨i, hi, h⟩ := h
    simp at h
  · simp at h
theorem ixI_array {t : TypeId} {k es : Nat} (h : ixI P t = some (some k, es)) : ∃ e i, P.underlying t = some (.array k e) ∧ P.info? e = some i ∧ i.size = es := by
  unfold ixI at h
  split at h
  · rename_i e hu
    rw [Option.map_eq_some_iff] at h
    obtain ⟨i, hi, h⟩ := h
    simp at h
  · rename_i n e hu
    rw [Option.map_eq_some_iff] at h
    obtain ⟨i, hi, h⟩ := h
    simp only [Prod.mk.injEq, Option.some.injEq] at h
    obtain ⟨rfl, h⟩ := h
    exact ⟨e, i, hu, hi, h⟩
  · simp at h
theorem run_indexSl {t e : TypeId} {i : TypeInfo} (hu : P.underlying t = some (.slice e)) (hi : P.info? e = some i) {a : Addr} {len cap : Nat} {k : IntKind} {n : Int} (h : 0 ≤ n ∧ n < len) :
    (Instr.indexAt t (.slice (some a) len cap) (.int k n)).run P w = .ok (.pointer (some (a.add (n.toNat * i.size)))) w := by
  simp [Instr.indexAt, asIntOf, run_underlying hu, run_sizeOf' hi, h]
theorem run_indexAr {t e : TypeId} {i : TypeInfo} {m : Nat} (hu : P.underlying t = some (.array m e)) (hi : P.info? e = some i) {a : Addr} {k : IntKind} {n : Int} (h : 0 ≤ n ∧ n < m) :
    (Instr.indexAt t (.pointer (some a)) (.int k n)).run P w = .ok (.pointer (some (a.add (n.toNat * i.size)))) w := by
  simp [Instr.indexAt, asIntOf, run_underlying hu, run_sizeOf' hi, h, Instr.sureAddr]
theorem y_indexAddr {t : TypeId} {x y : Operand} (hρ : Rho w ι F ρ r) (h : evO P ρ H slot (.indexAddr t x y) = some (c, v, none)) (hc : c) : Yld P w ι F r ⟨dst, .indexAddr t x y, ty, pos, aft, gd⟩ v := by
  simp only [evO] at h
  split at h
  · rename_i es id s off len m k n h1 h2 h3
    split at h
    · rename_i hs
      subst hs
      simp only [Option.some.injEq, Prod.mk.injEq] at h
      obtain ⟨rfl, rfl, _⟩ := h
      obtain ⟨e, i, hu, hi, hsz⟩ := ixI_slice h1
      have ey := (hρ y _ h3).int_
      rcases (hρ x _ h2).sl_ with ⟨oa, rfl, _, _⟩ | ⟨cap, g, base, nn, et, hι, _, _, _, _, ex⟩
      · omega
      · refine ⟨.pointer (some ((⟨g, base + off * es, none⟩ : Addr).add (n.toNat * i.size))), by simp only [execOp, ex, ey]; simp [run_indexSl hu hi hc], ?_⟩
        rw [addr_add _ _ rfl]
        have := VR.ptr (w := w) (F := F) id es (off + n.toNat) 0 g base hι
        rw [Nat.add_mul, ← Nat.add_assoc, Nat.add_zero] at this
        rw [hsz]
        exact this
    · simp at h
  · rename_i es s rows k n h1 h2 h3
    split at h
    · rename_i hs
      subst hs
      simp only [Option.some.injEq, Prod.mk.injEq] at h
      obtain ⟨rfl, rfl, _⟩ := h
      obtain ⟨e, i, hu, hi, hsz⟩ := ixI_slice h1
      have ey := (hρ y _ h3).int_
      obtain ⟨oa, cap, vals, ex, hcap, hone, hrow, hrel⟩ := (hρ x _ h2).ro_
      have hlt : n.toNat < rows.length := by omega
      obtain ⟨hl, a, rfl, ha, hF, hcell⟩ := hrow n.toNat rows[n.toNat] (List.getElem?_eq_getElem hlt)
      have eg : rows.getD n.toNat [] = rows[n.toNat] := by simp [List.getD_eq_getElem?_getD, List.getElem?_eq_getElem hlt]
      refine ⟨.pointer (some (a.add (n.toNat * i.size))), by simp only [execOp, ex, ey]; simp [run_indexSl hu hi hc], ?_⟩
      rw [addr_add _ _ ha, hsz, eg]
      exact .fr (.rptr _ _ (vals n.toNat) rfl hF (fun j hj => hcell j (by omega)) (fun j hj => hone _ _ hlt (by omega)) fun j c hc' => hrel n.toNat _ j c (List.getElem?_eq_getElem hlt) hc')
    · simp at h
  · rename_i m es id s i j k n h1 h2 h3
    simp only [Option.some.injEq, Prod.mk.injEq] at h
    obtain ⟨rfl, rfl, _⟩ := h
    obtain ⟨e, ti, hu, hi, hsz⟩ := ixI_array h1
    have ey := (hρ y _ h3).int_
    obtain ⟨g, base, hι, ex⟩ := (hρ x _ h2).ptr_
    refine ⟨.pointer (some ((⟨g, base + i * s + j, none⟩ : Addr).add (n.toNat * ti.size))), by simp only [execOp, ex, ey]; simp [run_indexAr hu hi hc], ?_⟩
    rw [addr_add _ _ rfl, hsz]
    have := VR.ptr (w := w) (F := F) id s i (j + n.toNat * es) g base hι
    rwa [← Nat.add_assoc] at this
  · rename_i m es cs k n h1 h2 h3
    simp only [Option.some.injEq, Prod.mk.injEq] at h
    obtain ⟨rfl, rfl, _⟩ := h
    obtain ⟨e, ti, hu, hi, hsz⟩ := ixI_array h1
    have ey := (hρ y _ h3).int_
    obtain ⟨a, vals, ex, hs, hF, hone, hcell, hrel⟩ := (hρ x _ h2).rptr_
    refine ⟨.pointer (some (a.add (n.toNat * ti.size))), by simp only [execOp, ex, ey]; simp [run_indexAr hu hi hc], ?_⟩
    rw [addr_add _ _ hs, hsz]
    refine .fr (.rptr _ _ (fun j => vals (n.toNat * es + j)) rfl hF (fun j hj => ?_) (fun j hj => hone _ (by simp only [List.length_drop] at hj; omega)) fun j c hc => ?_)
    · simp only [List.length_drop] at hj
      have := hcell (n.toNat * es + j) (by omega)
      rw [← Nat.add_assoc] at this
      exact this
    · rw [List.getElem?_drop] at hc
      exact hrel _ _ hc
  · simp at h
theorem y_load {t : TypeId} {x : Operand} (hρ : Rho w ι F ρ r) (hH : RelH w ι F H) (h : evO P ρ H slot (.load t x) = some (c, v, none)) (hc : c) : Yld P w ι F r ⟨dst, .load t x, ty, pos, aft, gd⟩ v := by
  simp only [evO] at h
  split at h
  · rename_i l cs h1 h2
    simp only [Option.some.injEq, Prod.mk.injEq] at h
    obtain ⟨rfl, rfl, _⟩ := h
    obtain ⟨a, vals, ex, hs, hF, hone, hcell, hrel⟩ := (hρ x _ h2).rptr_
    obtain ⟨u, hu, hr⟩ := rdC_load (P := P) (w := w) (ι := ι) (F := F) h1 hs (fun j c hc => ⟨_, hcell j (List.getElem?_eq_some_iff.1 hc).1, hone j (List.getElem?_eq_some_iff.1 hc).1, .fr (hrel j c hc)⟩) hc
    exact ⟨u, by simp [execOp, ex, hu], hr⟩
  · rename_i l id s i j h1 h2
    split at h
    · rename_i b hb
      split at h
      · rename_i hs
        subst hs
        simp only [Option.some.injEq, Prod.mk.injEq] at h
        obtain ⟨rfl, rfl, _⟩ := h
        obtain ⟨g, base, hι, ex⟩ := (hρ x _ h2).ptr_
        obtain ⟨hrl, _, hblk⟩ := hH.blk id b hb
        obtain ⟨cs, e, vals, hh, hfit, hcell, hrel⟩ := hblk g base hι
        obtain ⟨hi, hc⟩ := hc
        have eg : b.rows.getD i [] = b.rows[i] := by simp [List.getD_eq_getElem?_getD, List.getElem?_eq_getElem hi]
        rw [eg] at hc ⊢
        have hlen := hrl i _ (List.getElem?_eq_getElem hi)
        obtain ⟨u, hu, hr⟩ := rdC_load (P := P) (w := w) (ι := ι) (F := F) (a := ⟨g, base + i * b.s + j, none⟩) h1 rfl (fun k c hc => by
          rw [List.getElem?_drop] at hc
          have hk : j + k < b.s := by rw [← hlen]; exact (List.getElem?_eq_some_iff.1 hc).1
          refine ⟨vals i (j + k), ?_, (hcell i (j + k) hi hk).2, hrel i _ (j + k) c (List.getElem?_eq_getElem hi) hc⟩
          have := (hcell i (j + k) hi hk).1
          rw [← Nat.add_assoc] at this
          simp [World.cell?, hh, this]) hc
        exact ⟨u, by simp [execOp, ex, hu], hr⟩
      · simp at h
    · simp at h
  · simp at h
end
end Go.Aw

/- evO is sound: cuts, lengths, closures, structs. -/
set_option linter.unusedVariables false
set_option linter.unusedSimpArgs false
namespace Go.Aw
open Go

section
variable {P : Program} {w : World} {ι : Imap} {F : Nat → Prop} {H : List (Option Blk)} {slot : Nat} {ρ : Operand → Option AV} {r : Operand → Value} {c : Prop} {v : AV}
variable {dst : Option Tmp} {ty : TypeId} {pos : String} {aft : Array Edge} {gd : Option (Nat × Bool)}

def BV (o : Option Value) (d n : Int) : Prop := (o = none ∧ n = d) ∨ ∃ k, o = some (.int k n)
theorem bound_bv (hρ : Rho w ι F ρ r) {d n : Int} {o : Option Operand} (h : bound ρ d o = some n) : BV (o.map r) d n := by
  unfold bound at h
  split at h
  · simp at h; exact .inl ⟨rfl, h.symm⟩
  · split at h
    · rename_i x _ k n' hx
      simp at h
      subst h
      exact .inr ⟨k, by simp [(hρ x _ hx).int_]⟩
    · simp at h

theorem run_sliceBound' {k : IntKind} {n : Int} {y : Nat} {code : BoundsCode} (h0 : 0 ≤ n) (h1 : n ≤ y) : (Instr.sliceBound (.int k n) y code).run P w = .ok n.toNat w := by
  simp [Instr.sliceBound, asIntOf, h0, h1]
theorem run_bounds2 {isSlice : Bool} {len cap : Nat} {lo hi : Option Value} {l h : Int} (hh : BV hi len h) (hl : BV lo 0 l) (h0 : 0 ≤ l) (h1 : l ≤ h) (h2 : h ≤ cap) :
    (Instr.sliceBounds isSlice len cap lo hi none).run P w = .ok (l.toNat, h.toNat, cap) w := by
  rcases hh with ⟨rfl, rfl⟩ | ⟨k, rfl⟩ <;> rcases hl with ⟨rfl, rfl⟩ | ⟨k', rfl⟩
  · simp [Instr.sliceBounds]
  · simp [Instr.sliceBounds, run_sliceBound' (k := k') (P := P) (w := w) h0 h1]
  · simp [Instr.sliceBounds, run_sliceBound' (k := k) (P := P) (w := w) h1 h2]
  · have e : l ≤ (h.toNat : Int) := by omega
    simp [Instr.sliceBounds, run_sliceBound' (k := k) (P := P) (w := w) (Int.le_trans h0 h1) h2, run_sliceBound' (k := k') (P := P) (w := w) h0 e]
theorem run_bounds3 {isSlice : Bool} {len cap : Nat} {lo hi mx : Option Value} {l h m d : Int} {k k1 : IntKind} (hm : mx = some (.int k m)) (hh : hi = some (.int k1 h)) (hl : BV lo 0 l) (h0 : 0 ≤ l) (h1 : l ≤ h) (h2 : h ≤ m) (h3 : m ≤ cap) :
    (Instr.sliceBounds isSlice len cap lo hi mx).run P w = .ok (l.toNat, h.toNat, m.toNat) w := by
  subst hm hh
  have e2 : h ≤ (m.toNat : Int) := by omega
  have e : l ≤ (h.toNat : Int) := by omega
  rcases hl with ⟨rfl, rfl⟩ | ⟨k', rfl⟩
  · simp [Instr.sliceBounds, run_sliceBound' (k := k) (P := P) (w := w) (show 0 ≤ m by omega) h3, run_sliceBound' (k := k1) (P := P) (w := w) (show 0 ≤ h by omega) e2]
  · simp [Instr.sliceBounds, run_sliceBound' (k := k) (P := P) (w := w) (show 0 ≤ m by omega) h3, run_sliceBound' (k := k1) (P := P) (w := w) (show 0 ≤ h by omega) e2, run_sliceBound' (k := k') (P := P) (w := w) h0 e]

theorem run_sliceAt_slice {t e : TypeId} {i : TypeInfo} (hu : P.underlying t = some (.slice e)) (hi : P.info? e = some i) {a : Option Addr} {len cap : Nat} {lo hi' mx : Option Value} {l h m : Nat}
    (hb : (Instr.sliceBounds true len cap lo hi' mx).run P w = .ok (l, h, m) w) :
    (Instr.sliceAt t (.slice a len cap) lo hi' mx).run P w = .ok (.slice (if m = l then a else a.map (·.add (l * i.size))) (h - l) (m - l)) w := by
  simp [Instr.sliceAt, run_underlying hu, Instr.slice, hb, run_sizeOf' hi]

/-- A cut of the call's own row. -/
theorem sl_cut {id es off len m : Nat} {u : Value} {i : TypeInfo} (hs : i.size = es) {l h k : Nat} (hr : VR w ι F (.sl id es off len m) u) (h1 : l ≤ h) (h2 : h ≤ k) :
    ∃ oa n cap, u = .slice oa n cap ∧ n = len ∧ (m ≤ cap ∧ m ≤ 140737488355328) ∧ (k ≤ m → ∀ k', k ≤ k' → k' ≤ cap → VR w ι F (.sl id es (off + l) (h - l) (k - l)) (.slice (if k' = l then oa else oa.map (·.add (l * i.size))) (h - l) (k' - l))) := by
  rcases hr.sl_ with ⟨oa, rfl, rfl, rfl⟩ | ⟨cap, g, base, n, e, hι, hsh, hl, hm, hfit, rfl⟩
  · refine ⟨oa, 0, 0, rfl, rfl, ⟨Nat.le_refl _, by omega⟩, fun hk k' hk' hk2 => ?_⟩
    obtain rfl : k' = 0 := by omega
    obtain rfl : k = 0 := by omega
    obtain rfl : h = 0 := by omega
    obtain rfl : l = 0 := by omega
    simpa using VR.sl0 id es off oa
  · refine ⟨_, len, cap, rfl, rfl, hm, fun hk k' hk' hk2 => ?_⟩
    by_cases hz : k' = l
    · subst hz
      obtain rfl : h = k' := by omega
      obtain rfl : k = h := by omega
      simpa using VR.sl0 id es (off + k) _
    · rw [if_neg hz]
      simp only [Option.map_some]
      rw [addr_add _ _ rfl, hs]
      have e1 : base + off * es + l * es = base + (off + l) * es := by rw [Nat.add_mul, Nat.add_assoc]
      rw [e1]
      refine .sl id es (off + l) (h - l) (k - l) (k' - l) g base n e hι hsh (by omega) (by omega) ?_
      have e2 : off + l + (k' - l) ≤ off + cap := by omega
      have := Nat.mul_le_mul_right es e2
      omega

theorem y_slice {t : TypeId} {x : Operand} {lo hi mx : Option Operand} (hρ : Rho w ι F ρ r) (h : evO P ρ H slot (.slice t x lo hi mx) = some (c, v, none)) (hc : c) : Yld P w ι F r ⟨dst, .slice t x lo hi mx, ty, pos, aft, gd⟩ v := by
  cases mx with
  | none =>
    simp only [evO] at h
    split at h
    · rename_i s h1
      split at h
      · rename_i l h' hu hl hh
        simp only [Option.some.injEq, Prod.mk.injEq] at h
        obtain ⟨rfl, rfl, _⟩ := h
        obtain ⟨c1, c2, c3⟩ := hc
        have hb := run_bounds2 (P := P) (w := w) (isSlice := false) (cap := s.size) (bound_bv hρ hh) (bound_bv hρ hl) c1 c2 c3
        refine ⟨.string (s.extract l.toNat h'.toNat), ?_, .str _⟩
        simp only [execOp, (hρ x _ h1).str_]
        simp [Instr.sliceAt, run_underlying hu, Instr.slice, hb]
      · simp at h
    · rename_i id s off len m h1
      split at h
      · rename_i es l h' ht hl hh
        split at h
        · rename_i hs
          subst hs
          simp only [Option.some.injEq, Prod.mk.injEq] at h
          obtain ⟨rfl, rfl, _⟩ := h
          obtain ⟨c1, c2, c3⟩ := hc
          obtain ⟨e, i, hu, hi, hsz⟩ := ixI_slice ht
          obtain ⟨oa, n, cap, ex, rfl, hmc, hk⟩ := sl_cut (i := i) hsz (l := l.toNat) (h := h'.toNat) (k := m) (hρ x _ h1) (by omega) (by omega)
          have hb := run_bounds2 (P := P) (w := w) (isSlice := true) (cap := cap) (bound_bv hρ hh) (bound_bv hρ hl) c1 c2 (by omega)
          have hr := hk (Nat.le_refl _) cap hmc.1 (Nat.le_refl _)
          have e1 : (h' - l).toNat = h'.toNat - l.toNat := by omega
          rw [e1]
          refine ⟨_, ?_, hr⟩
          simp only [execOp, ex]
          simp [run_sliceAt_slice hu hi hb]
        · simp at h
      · simp at h
    · rename_i s rows h1
      split at h
      · rename_i es l h' ht hl hh
        split at h
        · rename_i hs
          subst hs
          simp only [Option.some.injEq, Prod.mk.injEq] at h
          obtain ⟨rfl, rfl, _⟩ := h
          obtain ⟨c1, c2, c3⟩ := hc
          obtain ⟨e, i, hu, hi, hsz⟩ := ixI_slice ht
          obtain ⟨oa, cap, vals, ex, hcap, hone, hrow, hrel⟩ := (hρ x _ h1).ro_
          have hb := run_bounds2 (P := P) (w := w) (isSlice := true) (cap := cap) (bound_bv hρ hh) (bound_bv hρ hl) c1 c2 (by omega)
          refine ⟨_, by simp only [execOp, ex]; simp [run_sliceAt_slice hu hi hb]; rfl, ?_⟩
          have e1 : h'.toNat - l.toNat = ((rows.take h'.toNat).drop l.toNat).length := by simp; omega
          rw [e1]
          have hat : ∀ i row, ((rows.take h'.toNat).drop l.toNat)[i]? = some row → rows[l.toNat + i]? = some row := by
            intro i row hi
            rw [List.getElem?_drop, List.getElem?_take] at hi
            split at hi
            · exact hi
            · simp at hi
          refine .fr (.ro es _ _ _ (fun i j => vals (l.toNat + i) j) (by rw [← e1]; exact ⟨by omega, by omega⟩) (fun i' row hi' => ?_) (fun i' j hi' hj => hone _ _ (by simp at hi'; omega) hj) fun i' row j c hi' hc => hrel _ row j c (hat i' row hi') hc)
          obtain ⟨hl', a, rfl, ha, hF, hcell⟩ := hrow _ row (hat i' row hi')
          have hlt : l.toNat + i' < rows.length := (List.getElem?_eq_some_iff.1 (hat i' row hi')).1
          refine ⟨hl', a.add (l.toNat * i.size), by rw [if_neg (by omega)]; rfl, by rw [addr_add _ _ ha], by rw [addr_add _ _ ha]; exact hF, fun j hj => ?_⟩
          have := hcell j hj
          rw [addr_add _ _ ha, hsz]
          rw [Nat.add_mul, ← Nat.add_assoc] at this
          exact this
        · simp at h
      · simp at h
    · rename_i h1
      split at h
      · rename_i es l h' ht hl hh
        simp only [Option.some.injEq, Prod.mk.injEq] at h
        obtain ⟨rfl, rfl, _⟩ := h
        obtain ⟨rfl, rfl⟩ := hc
        obtain ⟨e, i, hu, hi, hsz⟩ := ixI_slice ht
        obtain ⟨oa, ex⟩ := (hρ x _ h1).nils_
        have hb := run_bounds2 (P := P) (w := w) (isSlice := true) (cap := 0) (bound_bv hρ hh) (bound_bv hρ hl) (Int.le_refl _) (Int.le_refl _) (Int.le_refl _)
        exact ⟨_, by simp only [execOp, ex]; simp [run_sliceAt_slice hu hi hb]; rfl, .fr (.nils _)⟩
      · simp at h
    · simp at h
  | some mx =>
    simp only [evO] at h
    have hmx : ∀ {n : Int} {d : Int} {y : Operand}, bound ρ d (some y) = some n → ∃ k, r y = .int k n := by
      intro n d y hy
      rcases bound_bv hρ hy with ⟨h1, _⟩ | ⟨k, h1⟩
      · simp at h1
      · exact ⟨k, by simpa using h1⟩
    split at h
    · rename_i id s off len m hio es l h' k h1 ht hl hk hh
      split at h
      · rename_i hs
        subst hs
        simp only [Option.some.injEq, Prod.mk.injEq] at h
        obtain ⟨rfl, rfl, _⟩ := h
        obtain ⟨c1, c2, c3, c4⟩ := hc
        obtain ⟨e, i, hu, hi, hsz⟩ := ixI_slice ht
        obtain ⟨q1, hq1⟩ := hmx hh
        obtain ⟨q2, hq2⟩ := hmx hk
        obtain ⟨oa, n, cap, ex, rfl, hmc, hkk⟩ := sl_cut (i := i) hsz (l := l.toNat) (h := h'.toNat) (k := k.toNat) (hρ x _ h1) (by omega) (by omega)
        have hb := run_bounds3 (P := P) (w := w) (isSlice := true) (len := n) (cap := cap) (d := 0) (mx := some (r mx)) (hi := some (r hio)) (by rw [hq2]) (by rw [hq1]) (bound_bv hρ hl) c1 c2 c3 (by omega)
        have hr := hkk (by omega) k.toNat (Nat.le_refl _) (by omega)
        have e1 : (h' - l).toNat = h'.toNat - l.toNat := by omega
        have e2 : (k - l).toNat = k.toNat - l.toNat := by omega
        rw [e1, e2]
        refine ⟨_, ?_, hr⟩
        simp only [execOp, ex, Option.map_some]
        simp [run_sliceAt_slice hu hi hb]
      · simp at h
    · rename_i s rows hio es l h' k h1 ht hl hk hh
      split at h
      · rename_i hs
        subst hs
        simp only [Option.some.injEq, Prod.mk.injEq] at h
        obtain ⟨rfl, rfl, _⟩ := h
        obtain ⟨rfl, rfl, rfl⟩ := hc
        obtain ⟨e, i, hu, hi, hsz⟩ := ixI_slice ht
        obtain ⟨q1, hq1⟩ := hmx hh
        obtain ⟨q2, hq2⟩ := hmx hk
        obtain ⟨oa, cap, vals, ex, hcap, hone, hrow, hrel⟩ := (hρ x _ h1).ro_
        have hb := run_bounds3 (P := P) (w := w) (isSlice := true) (len := rows.length) (cap := cap) (d := 0) (mx := some (r mx)) (hi := some (r hio)) (by rw [hq2]) (by rw [hq1]) (bound_bv hρ hl) (Int.le_refl _) (Int.le_refl _) (Int.le_refl _) (by omega)
        exact ⟨_, by simp only [execOp, ex, Option.map_some]; simp [run_sliceAt_slice hu hi hb]; rfl, .fr (.nils _)⟩
      · simp at h
    · rename_i hio es l h' k h1 ht hl hk hh
      simp only [Option.some.injEq, Prod.mk.injEq] at h
      obtain ⟨rfl, rfl, _⟩ := h
      obtain ⟨rfl, rfl, rfl⟩ := hc
      obtain ⟨e, i, hu, hi, hsz⟩ := ixI_slice ht
      obtain ⟨q1, hq1⟩ := hmx hh
      obtain ⟨q2, hq2⟩ := hmx hk
      obtain ⟨oa, ex⟩ := (hρ x _ h1).nils_
      have hb := run_bounds3 (P := P) (w := w) (isSlice := true) (len := 0) (cap := 0) (d := 0) (mx := some (r mx)) (hi := some (r hio)) (by rw [hq2]) (by rw [hq1]) (bound_bv hρ hl) (Int.le_refl _) (Int.le_refl _) (Int.le_refl _) (by omega)
      exact ⟨_, by simp only [execOp, ex, Option.map_some]; simp [run_sliceAt_slice hu hi hb]; rfl, .fr (.nils _)⟩
    · simp at h

theorem mapM_rho (hρ : Rho w ι F ρ r) {xs : List Operand} {vs : List AV} (h : xs.mapM ρ = some vs) : vs.length = xs.length ∧ ∀ (j : Nat) (c : AV), vs[j]? = some c → ∃ x, (xs.map r)[j]? = some x ∧ VR w ι F c x := by
  obtain ⟨h1, h2⟩ := mapM_some h
  refine ⟨h1.symm, fun j c hc => ?_⟩
  obtain ⟨x, hx, hx2⟩ := h2 j c hc
  exact ⟨r x, by simp [hx], hρ x c hx2⟩

theorem y_makeFunc {f : Fn} {fi cap : Array Operand} (hρ : Rho w ι F ρ r) (h : evO P ρ H slot (.makeFunc f fi cap) = some (c, v, none)) : Yld P w ι F r ⟨dst, .makeFunc f fi cap, ty, pos, aft, gd⟩ v := by
  simp only [evO] at h
  split at h
  · rename_i f hfi
    obtain rfl : fi = #[] := by
      obtain ⟨l⟩ := fi
      simp only at hfi
      rw [hfi]
    rw [Option.map_eq_some_iff] at h
    obtain ⟨vs, hvs, h⟩ := h
    simp only [Prod.mk.injEq] at h
    obtain ⟨_, rfl, _⟩ := h
    obtain ⟨h1, h2⟩ := mapM_rho hρ hvs
    exact ⟨.func (.func f) #[] (cap.map r), by simp [execOp, Instr.makeFunc], .mk_fn (by simpa using h1) fun j c hc => by
      obtain ⟨x, hx, hr⟩ := h2 j c hc
      exact ⟨x, by simpa using hx, hr⟩⟩
  · simp at h

theorem lenA_slice {x : AV} {u : Value} {n : Nat} (h : lenA x = some n) (hr : VR w ι F x u) (hs : ∀ s, x ≠ .str s) : ∃ oa cap, u = .slice oa n cap := by
  unfold lenA at h
  split at h <;> simp at h
  · subst h
    rcases hr.sl_ with ⟨oa, rfl, _, rfl⟩ | ⟨cap, g, base, n, e, _, _, _, _, _, rfl⟩
    · exact ⟨_, _, rfl⟩
    · exact ⟨_, _, rfl⟩
  · subst h
    obtain ⟨oa, cap, vals, rfl, _⟩ := hr.ro_
    exact ⟨_, _, rfl⟩
  · subst h
    obtain ⟨oa, rfl⟩ := hr.nils_
    exact ⟨_, _, rfl⟩
  · exact absurd rfl (hs _)

theorem y_len {x : Operand} {t : TypeId} (hρ : Rho w ι F ρ r) (h : evB P ρ .len [x] [t] = some (c, v, none)) :
    Yld P w ι F r ⟨dst, .call { callee := .builtin .len, args := #[x], argTypes := #[t] }, ty, pos, aft, gd⟩ v := by
  simp only [evB] at h
  split at h
  · rename_i n hu hl
    rw [Option.bind_eq_some_iff] at hl
    obtain ⟨a, ha, hl⟩ := hl
    split at h
    · rename_i s hs
      simp only [Option.some.injEq, Prod.mk.injEq] at h
      obtain ⟨_, rfl, _⟩ := h
      rw [hs] at ha
      simp only [Option.some.injEq] at ha
      subst ha
      simp only [lenA, Option.some.injEq] at hl
      subst hl
      exact ⟨goInt s.size, by simp [execOp, resolve, invoke, builtin, (hρ x _ hs).str_, Builtin.len_, run_underlying hu], .int _ _⟩
    · simp at h
  · rename_i e n hu hl
    rw [Option.bind_eq_some_iff] at hl
    obtain ⟨a, ha, hl⟩ := hl
    split at h
    · simp at h
    · rename_i hns
      simp only [Option.some.injEq, Prod.mk.injEq] at h
      obtain ⟨_, rfl, _⟩ := h
      obtain ⟨oa, cap, ex⟩ := lenA_slice hl (hρ x _ ha) (fun s hs => hns s (by rw [ha, hs]))
      exact ⟨goInt n, by simp [execOp, resolve, invoke, builtin, ex, Builtin.len_, run_underlying hu], .int _ _⟩
  · simp at h
theorem y_min {x y : Operand} {ts : Array TypeId} {tl : List TypeId} (hρ : Rho w ι F ρ r) (h : evB P ρ .min [x, y] tl = some (c, v, none)) :
    Yld P w ι F r ⟨dst, .call { callee := .builtin .min, args := #[x, y], argTypes := ts }, ty, pos, aft, gd⟩ v := by
  simp only [evB] at h
  split at h
  · rename_i k a k' b h1 h2
    simp only [Option.some.injEq, Prod.mk.injEq] at h
    obtain ⟨_, rfl, _⟩ := h
    refine ⟨_, ?_, .int _ _⟩
    simp [execOp, resolve, invoke, builtin, (hρ x _ h1).int_, (hρ y _ h2).int_, Builtin.min_, Builtin.min2]
  · simp at h
theorem y_max {x y : Operand} {ts : Array TypeId} {tl : List TypeId} (hρ : Rho w ι F ρ r) (h : evB P ρ .max [x, y] tl = some (c, v, none)) :
    Yld P w ι F r ⟨dst, .call { callee := .builtin .max, args := #[x, y], argTypes := ts }, ty, pos, aft, gd⟩ v := by
  simp only [evB] at h
  split at h
  · rename_i k a k' b h1 h2
    simp only [Option.some.injEq, Prod.mk.injEq] at h
    obtain ⟨_, rfl, _⟩ := h
    refine ⟨_, ?_, .int _ _⟩
    simp [execOp, resolve, invoke, builtin, (hρ x _ h1).int_, (hρ y _ h2).int_, Builtin.max_, Builtin.max2]
  · simp at h
theorem y_builtin {b : Builtin} {args : Array Operand} {ts : Array TypeId} (hρ : Rho w ι F ρ r) (h : evB P ρ b args.toList ts.toList = some (c, v, none)) :
    Yld P w ι F r ⟨dst, .call { callee := .builtin b, args := args, argTypes := ts }, ty, pos, aft, gd⟩ v := by
  obtain ⟨args⟩ := args
  obtain ⟨ts⟩ := ts
  simp only at h
  have h0 := h
  unfold evB at h
  split at h
  · exact y_len hρ h0
  · exact y_min hρ h0
  · exact y_max hρ h0
  · simp at h
end
end Go.Aw

/- evO is sound: structs built; what is made. -/
set_option linter.unusedVariables false
set_option linter.unusedSimpArgs false
namespace Go.Aw
open Go

section
variable {P : Program} {w : World} {ι : Imap} {F : Nat → Prop} {H : List (Option Blk)} {slot : Nat} {ρ : Operand → Option AV} {r : Operand → Value} {c : Prop} {v : AV}
variable {dst : Option Tmp} {ty : TypeId} {pos : String} {aft : Array Edge} {gd : Option (Nat × Bool)}

theorem fold_set (off : Nat) : ∀ (l : List Value) (n : Nat) (cells : Array Value), let res := (l.zipIdx n).foldl (fun (cs : Array Value) (p : Value × Nat) => cs.setIfInBounds (off + p.2) p.1) cells
    res.size = cells.size ∧ ∀ k, k < cells.size → res[k]? = if off + n ≤ k ∧ k < off + n + l.length then l[k - (off + n)]? else cells[k]? := by
  intro l
  induction l with
  | nil => intro n cells; refine ⟨rfl, fun k hk => ?_⟩; rw [if_neg (by simp)]; rfl
  | cons a l ih =>
    intro n cells
    simp only [List.zipIdx_cons, List.foldl_cons]
    obtain ⟨h1, h2⟩ := ih (n + 1) (cells.setIfInBounds (off + n) a)
    refine ⟨by rw [h1]; simp, fun k hk => ?_⟩
    rw [h2 k (by simpa using hk)]
    by_cases hk0 : k = off + n
    · subst hk0
      rw [if_neg (by omega), if_pos (by simp)]
      simp [hk]
    · by_cases hin : off + (n + 1) ≤ k ∧ k < off + (n + 1) + l.length
      · rw [if_pos hin, if_pos (by simp; omega)]
        have e : k - (off + n) = (k - (off + (n + 1))) + 1 := by omega
        rw [e, List.getElem?_cons_succ]
      · rw [if_neg hin, if_neg (by simp; omega)]
        rw [Array.getElem?_setIfInBounds_ne (by omega)]

theorem spl_get {row cs : List AV} {j k : Nat} (h : j + cs.length ≤ row.length) : (spl row j cs)[k]? = if j ≤ k ∧ k < j + cs.length then cs[k - j]? else row[k]? := by
  unfold spl
  have hl : (row.take j).length = j := by simp; omega
  rw [List.append_assoc, List.getElem?_append, hl]
  split
  · rw [if_neg (by omega), List.getElem?_take, if_pos (by omega)]
  · rw [List.getElem?_append]
    split
    · rw [if_pos (by omega)]
    · rw [if_neg (by omega), List.getElem?_drop]
      congr 1
      omega
theorem spl_length {row cs : List AV} {j : Nat} (h : j + cs.length ≤ row.length) : (spl row j cs).length = row.length := by
  unfold spl
  simp
  omega

theorem CR.set {cs ps : List AV} {us qs : Array Value} (h : CR w ι F cs us) (hp : CR w ι F ps qs) {off : Nat} (hfit : off + ps.length ≤ cs.length) :
    CR w ι F (spl cs off ps) (qs.zipIdx.foldl (fun (cs : Array Value) (p : Value × Nat) => cs.setIfInBounds (off + p.2) p.1) us) := by
  have e : qs.zipIdx.foldl (fun (cs : Array Value) (p : Value × Nat) => cs.setIfInBounds (off + p.2) p.1) us = (qs.toList.zipIdx 0).foldl (fun (cs : Array Value) (p : Value × Nat) => cs.setIfInBounds (off + p.2) p.1) us := by
    rw [← Array.foldl_toList, Array.toList_zipIdx]
  rw [e]
  obtain ⟨h1, h2⟩ := fold_set off qs.toList 0 us
  refine ⟨by rw [spl_length hfit, h1]; exact h.1, fun j c hc => ?_⟩
  have hj : j < us.size := by
    have := (List.getElem?_eq_some_iff.1 hc).1
    rw [spl_length hfit] at this
    have := h.1
    omega
  rw [spl_get hfit] at hc
  have hpl := hp.1
  rw [h2 j hj]
  simp only [Nat.add_zero, Array.length_toList, ← hpl]
  split at hc
  · rename_i hin
    rw [if_pos hin]
    obtain ⟨x, hx, h3, h4⟩ := hp.2 _ c hc
    exact ⟨x, by simpa using hx, h3, h4⟩
  · rename_i hin
    rw [if_neg hin]
    exact h.2 j c hc

theorem fill_sound {place : Nat → Option (Nat × Nat)} : ∀ (ps : List (Nat × AV)) (qs : List (Nat × Value)) (cs res : List AV) (us : Array Value), ps.length = qs.length →
    (∀ (j : Nat) (f : Nat) (a : AV), ps[j]? = some (f, a) → ∃ u, qs[j]? = some (f, u) ∧ VR w ι F a u) → CR w ι F cs us → fillG place cs ps = some res → ∃ us', Instr.fill place us qs = some us' ∧ CR w ι F res us' := by
  intro ps
  induction ps with
  | nil =>
    intro qs cs res us hl hv hcr h
    obtain rfl : qs = [] := List.eq_nil_of_length_eq_zero (by simpa using hl.symm)
    simp only [fillG, Option.some.injEq] at h
    subst h
    exact ⟨us, rfl, hcr⟩
  | cons p ps ih =>
    intro qs cs res us hl hv hcr h
    obtain ⟨f, a⟩ := p
    cases qs with
    | nil => simp at hl
    | cons q qs =>
      obtain ⟨u, hq, hr⟩ := hv 0 f a rfl
      simp only [List.getElem?_cons_zero, Option.some.injEq] at hq
      subst hq
      simp only [fillG] at h
      split at h
      · rename_i off n cs' hpl hcq
        split at h
        · rename_i hfit
          obtain ⟨e, hfit⟩ := hfit
          subst e
          have hcr' := cellsQ_cr hr hcq
          obtain ⟨us', h1, h2⟩ := ih qs _ res _ (by simpa using hl) (fun j f' a' hj => by simpa using hv (j + 1) f' a' (by simpa using hj)) (hcr.set hcr' hfit) h
          refine ⟨us', ?_, h2⟩
          have e1 := hcr'.1
          have e2 := hcr.1
          simp only [Instr.fill, hpl]
          rw [if_neg (by simp; omega)]
          exact h1
        · simp at h
      · simp at h

theorem partsA_sound (hρ : Rho w ι F ρ r) {ps : Array (Nat × Operand)} {l : List (Nat × AV)} (h : partsA ρ ps = some l) :
    l.length = ((ps.map fun (i, x) => (i, r x)).toList).length ∧ ∀ (j : Nat) (f : Nat) (a : AV), l[j]? = some (f, a) → ∃ u, ((ps.map fun (i, x) => (i, r x)).toList)[j]? = some (f, u) ∧ VR w ι F a u := by
  unfold partsA at h
  obtain ⟨h1, h2⟩ := mapM_some h
  refine ⟨by simpa using h1.symm, fun j f a hj => ?_⟩
  obtain ⟨⟨i, x⟩, hx, hf⟩ := h2 j (f, a) hj
  simp only [Option.map_eq_some_iff, Prod.mk.injEq] at hf
  obtain ⟨b, hb, rfl, rfl⟩ := hf
  exact ⟨r x, by simp at hx ⊢; exact ⟨i, x, hx, rfl, rfl⟩, hρ x _ hb⟩

theorem zrI_spec {t : TypeId} {z : List AV} (h : zrI P t = some z) : ∃ i zv, P.info? t = some i ∧ i.zero = some zv ∧ z.length = i.size ∧ CR w ι F z zv.cells := by
  unfold zrI at h
  rw [Option.bind_eq_some_iff] at h
  obtain ⟨i, hi, h⟩ := h
  rw [Option.bind_eq_some_iff] at h
  obtain ⟨zv, hz, h⟩ := h
  rw [Option.bind_eq_some_iff] at h
  obtain ⟨l, hl, h⟩ := h
  split at h
  · simp only [Option.some.injEq] at h
    subst h
    obtain ⟨h1, h2⟩ := mapM_some hl
    exact ⟨i, zv, hi, hz, by assumption, by simpa using h1.symm, fun j c hc => by
      obtain ⟨x, hx, hf⟩ := h2 j c hc
      exact ⟨x, by simpa using hx, cellA_one hf, .fr (cellA_sound hf)⟩⟩
  · simp at h

theorem run_zeroValue' {t : TypeId} {i : TypeInfo} {z : Value} (h : P.info? t = some i) (hz : i.zero = some z) (w : World) : (zeroValue t).run P w = .ok z w := by simp [zeroValue, run_typeInfo' h, hz]

theorem mapM_ok {α β : Type} (f : α → Sem β) (g : α → β) (w : World) : ∀ (l : List α), (∀ x ∈ l, (f x).run P w = .ok (g x) w) → (l.mapM f).run P w = .ok (l.map g) w := by
  intro l
  induction l with
  | nil => intro _; simp [List.mapM_nil]
  | cons a l ih =>
    intro h
    rw [List.mapM_cons]
    simp only [Sem.run_bind, h a (by simp), Result.andThen_ok, ih (fun x hx => h x (by simp [hx])), List.map_cons]
    rfl

theorem y_build {t : TypeId} {ps : Array (Nat × Operand)} (hρ : Rho w ι F ρ r) (h : evO P ρ H slot (.build t ps) = some (c, v, none)) : Yld P w ι F r ⟨dst, .build t ps, ty, pos, aft, gd⟩ v := by
  simp only [evO] at h
  split at h
  · rename_i fs z l hu hz hl
    split at h
    · rename_i hall
      rw [Option.map_eq_some_iff] at h
      obtain ⟨cs, hcs, h⟩ := h
      simp only [Prod.mk.injEq] at h
      obtain ⟨_, rfl, _⟩ := h
      obtain ⟨i, zv, hi, hzv, hlen, hcr⟩ := zrI_spec (w := w) (ι := ι) (F := F) hz
      obtain ⟨h1, h2⟩ := partsA_sound hρ hl
      obtain ⟨us, hf, hcr'⟩ := fill_sound l _ z cs zv.cells h1 h2 hcr hcs
      have hpl : (fs.mapM fun f => do pure (f.offset, ← sizeOf f.type) : Sem (Array (Nat × Nat))).run P w = .ok (fs.map fun f => (f.offset, (szI P f.type).getD 0)) w := by
        have := mapM_ok (P := P) (fun f : Field => (do pure (f.offset, ← sizeOf f.type) : Sem (Nat × Nat))) (fun f => (f.offset, (szI P f.type).getD 0)) w fs.toList (fun f hf => by
          have := Array.all_eq_true_iff_forall_mem.1 hall f (by simpa using hf)
          unfold szI at this ⊢
          cases hi : P.info? f.type with
          | none => simp [hi] at this
          | some i => simp [run_sizeOf' hi])
        rw [Array.mapM_eq_mapM_toList]
        have e : ∀ (m : Sem (List (Nat × Nat))), (List.toArray <$> m) = (m >>= fun l => pure l.toArray) := fun _ => rfl
        rw [e, Sem.run_bind, this, Result.andThen_ok, Sem.run_pure]
        congr 1
        apply Array.ext'
        simp
      have hplace : (fun k => (fs.map fun f => (f.offset, (szI P f.type).getD 0))[k]?) = fpI P t := by
        funext k
        simp only [fpI, hu, Array.getElem?_map]
        cases hk : fs[k]? with
        | none => rfl
        | some f =>
          have := Array.all_eq_true_iff_forall_mem.1 hall f (Array.mem_of_getElem? hk)
          obtain ⟨n, hn⟩ := Option.isSome_iff_exists.1 this
          simp [hn]
      refine ⟨.agg us, ?_, .mk_agg hcr'⟩
      simp only [execOp]
      simp only [Instr.build, Sem.run_bind, run_zeroValue' hi hzv, Result.andThen_ok, run_underlying hu, hpl, hplace]
      rw [hf]
      simp
    · simp at h
  · rename_i n e z l hu hz hl
    rw [Option.bind_eq_some_iff] at h
    obtain ⟨es, hes, h⟩ := h
    rw [Option.map_eq_some_iff] at h
    obtain ⟨cs, hcs, h⟩ := h
    simp only [Prod.mk.injEq] at h
    obtain ⟨_, rfl, _⟩ := h
    obtain ⟨i, zv, hi, hzv, hlen, hcr⟩ := zrI_spec (w := w) (ι := ι) (F := F) hz
    obtain ⟨h1, h2⟩ := partsA_sound hρ hl
    obtain ⟨us, hf, hcr'⟩ := fill_sound l _ z cs zv.cells h1 h2 hcr hcs
    unfold szI at hes
    rw [Option.map_eq_some_iff] at hes
    obtain ⟨j, hj, rfl⟩ := hes
    refine ⟨.agg us, ?_, .mk_agg hcr'⟩
    simp only [execOp]
    simp only [Instr.build, Sem.run_bind, run_zeroValue' hi hzv, Result.andThen_ok, run_underlying hu, run_sizeOf' hj]
    rw [hf]
    simp
  · simp at h
end
end Go.Aw

/- evO is sound: what makes a block. -/
set_option linter.unusedVariables false
set_option linter.unusedSimpArgs false
namespace Go.Aw
open Go

section
variable {P : Program} {w : World} {ι : Imap} {F : Nat → Prop} {H : List (Option Blk)} {slot : Nat} {ρ : Operand → Option AV} {r : Operand → Value} {c : Prop} {v : AV} {blk : Blk}
variable {dst : Option Tmp} {ty : TypeId} {pos : String} {aft : Array Edge} {gd : Option (Nat × Bool)}

def MadeB (w : World) (ι : Imap) (F : Nat → Prop) (b : Blk) (cs : Array Value) : Prop :=
  (∀ (i : Nat) (row : List AV), b.rows[i]? = some row → row.length = b.s) ∧ b.rows.length * b.s ≤ cs.size ∧ ∃ vals : Nat → Nat → Value,
    (∀ i j, i < b.rows.length → j < b.s → cs[i * b.s + j]? = some (vals i j) ∧ (vals i j).oneCell' = true) ∧
    ∀ (i : Nat) (row : List AV) (j : Nat) (c : AV), b.rows[i]? = some row → row[j]? = some c → VR w ι F c (vals i j)
def Mk (P : Program) (w : World) (ι : Imap) (F : Nat → Prop) (r : Operand → Value) (o : Oper) (slot : Nat) (v : AV) (b : Blk) : Prop :=
  ∃ (u : Value) (cs : Array Value) (e : TypeId), (execOp r o).run P w = .ok (.value u) (w.alloc (.cells cs e (0, 0))) ∧ MadeB w ι F b cs ∧
    ((v = .ptr slot b.s 0 0 ∧ u = .pointer (some ⟨w.heap.size, 0, none⟩)) ∨
     ∃ len m cap, v = .sl slot b.s 0 len m ∧ u = .slice (some ⟨w.heap.size, 0, none⟩) len cap ∧ len ≤ m ∧ (m ≤ cap ∧ m ≤ 140737488355328) ∧ cap * b.s ≤ cs.size)

theorem madeB_one {z : List AV} {us : Array Value} (h : CR w ι F z us) : MadeB w ι F ⟨z.length, [z]⟩ us := by
  refine ⟨fun i row hi => ?_, by simp [h.1], fun _ j => us.getD j default, fun i j hi hj => ?_, fun i row j c hi hc => ?_⟩
  · cases i with
    | zero => simp at hi; rw [← hi]
    | succ i => simp at hi
  · obtain rfl : i = 0 := by simpa using hi
    obtain ⟨x, hx, h1, _⟩ := h.2 j z[j] (List.getElem?_eq_getElem hj)
    simp [hx, h1]
  · cases i with
    | zero =>
      simp at hi
      subst hi
      obtain ⟨x, hx, _, hr⟩ := h.2 j c hc
      simpa [hx] using hr
    | succ i => simp at hi

theorem madeB_chunks {l : List AV} {us : Array Value} {n es : Nat} (h : CR w ι F l us) (hl : l.length = n * es) : MadeB w ι F ⟨es, (List.range n).map fun i => (l.drop (i * es)).take es⟩ us := by
  have hat : ∀ i row, ((List.range n).map fun i => (l.drop (i * es)).take es)[i]? = some row → i < n ∧ row = (l.drop (i * es)).take es := by
    intro i row hi
    have hin : i < n := by
      have := (List.getElem?_eq_some_iff.1 hi).1
      simpa using this
    refine ⟨hin, ?_⟩
    rw [List.getElem?_map, List.getElem?_range hin] at hi
    simpa using hi.symm
  have hfit : ∀ i, i < n → i * es + es ≤ n * es := fun i hi => by rw [← Nat.succ_mul]; exact Nat.mul_le_mul_right _ hi
  refine ⟨fun i row hi => ?_, by simp [← hl, h.1], fun i j => us.getD (i * es + j) default, fun i j hi hj => ?_, fun i row j c hi hc => ?_⟩
  · obtain ⟨h1, rfl⟩ := hat i row hi
    have := hfit i h1
    simp
    omega
  · simp only [List.length_map, List.length_range] at hi
    have := hfit i hi
    obtain ⟨x, hx, h1, _⟩ := h.2 (i * es + j) l[i * es + j] (List.getElem?_eq_getElem (by simp only at hj; omega))
    simp [hx, h1]
  · obtain ⟨h1, rfl⟩ := hat i row hi
    rw [List.getElem?_take, List.getElem?_drop] at hc
    split at hc
    · obtain ⟨x, hx, _, hr⟩ := h.2 _ c hc
      simpa [hx] using hr
    · simp at hc

theorem m_alloc {t : TypeId} (h : evO P ρ H slot (.alloc t) = some (c, v, some blk)) : Mk P w ι F r ⟨dst, .alloc t, ty, pos, aft, gd⟩ slot v blk := by
  simp only [evO] at h
  split at h
  · rename_i z hz
    simp only [Option.some.injEq, Prod.mk.injEq] at h
    obtain ⟨_, rfl, rfl⟩ := h
    obtain ⟨i, zv, hi, hzv, hlen, hcr⟩ := zrI_spec (w := w) (ι := ι) (F := F) hz
    refine ⟨.pointer (some ⟨w.heap.size, 0, none⟩), zv.cells, t, ?_, madeB_one hcr, .inl ⟨rfl, rfl⟩⟩
    simp only [execOp]
    simp [Instr.alloc, run_zeroValue' hi hzv, newVar, newRow]
  · simp at h

theorem m_box {t : TypeId} {x : Operand} (hρ : Rho w ι F ρ r) (h : evO P ρ H slot (.box t x) = some (c, v, some blk)) : Mk P w ι F r ⟨dst, .box t x, ty, pos, aft, gd⟩ slot v blk := by
  simp only [evO] at h
  rw [Option.map_eq_some_iff] at h
  obtain ⟨cs, hcs, h⟩ := h
  simp only [Prod.mk.injEq, Option.some.injEq] at h
  obtain ⟨_, rfl, rfl⟩ := h
  rw [Option.bind_eq_some_iff] at hcs
  obtain ⟨a, ha, hq⟩ := hcs
  have hcr := cellsQ_cr (hρ x a ha) hq
  refine ⟨.pointer (some ⟨w.heap.size, 0, none⟩), (r x).cells, t, ?_, madeB_one hcr, .inl ⟨rfl, rfl⟩⟩
  simp only [execOp]
  simp [Instr.box, newVar, newRow]

theorem elI_spec {t : TypeId} {es by_ : Nat} {z : List AV} (h : elI P t = some (es, by_, z)) : ∃ e i, P.underlying t = some (.slice e) ∧ P.info? e = some i ∧ i.size = es ∧ i.bytes = by_ ∧ zrI P e = some z := by
  unfold elI at h
  split at h
  · rename_i e hu
    rw [Option.bind_eq_some_iff] at h
    obtain ⟨i, hi, h⟩ := h
    rw [Option.map_eq_some_iff] at h
    obtain ⟨z', hz, h⟩ := h
    simp only [Prod.mk.injEq] at h
    obtain ⟨rfl, rfl, rfl⟩ := h
    exact ⟨e, i, hu, hi, rfl, rfl, hz⟩
  · simp at h

theorem rep_get {z : List AV} {n k : Nat} (h : 0 < z.length) (hk : k < n * z.length) : (List.replicate n z).flatten[k]? = z[k % z.length]? := by
  induction n generalizing k with
  | zero => simp at hk
  | succ n ih =>
    rw [List.replicate_succ, List.flatten_cons, List.getElem?_append]
    split
    · rename_i h1
      rw [Nat.mod_eq_of_lt h1]
    · rename_i h1
      rw [Nat.succ_mul] at hk
      rw [ih (by omega)]
      congr 1
      exact (Nat.mod_eq_sub_mod (by omega)).symm

theorem cr_zeros {z : List AV} {zv : Value} {n : Nat} (hz : CR w ι F z zv.cells) (h0 : 0 < z.length) : CR w ι F (List.replicate n z).flatten ((Array.range (n * z.length)).map fun i => zv.cells[i % zv.cells.size]!) := by
  refine ⟨by simp, fun j c hc => ?_⟩
  have hj : j < n * z.length := by
    have := (List.getElem?_eq_some_iff.1 hc).1
    simpa using this
  rw [rep_get h0 hj] at hc
  obtain ⟨x, hx, h1, hr⟩ := hz.2 _ c hc
  refine ⟨x, ?_, h1, hr⟩
  rw [← hz.1]
  have hlt : j % z.length < zv.cells.size := (Array.getElem?_eq_some_iff.1 hx).1
  have e := (Array.getElem?_eq_some_iff.1 hx).2
  simp [hj, hlt, e]

theorem m_buildSlice {t : TypeId} {n : Nat} {ps : Array (Nat × Operand)} (hρ : Rho w ι F ρ r) (h : evO P ρ H slot (.buildSlice t n ps) = some (c, v, some blk)) : Mk P w ι F r ⟨dst, .buildSlice t n ps, ty, pos, aft, gd⟩ slot v blk := by
  simp only [evO] at h
  split at h
  · rename_i es by_ z l hel hl
    split at h
    · rename_i hsz
      rw [Option.map_eq_some_iff] at h
      obtain ⟨cs, hcs, h⟩ := h
      simp only [Prod.mk.injEq, Option.some.injEq] at h
      obtain ⟨_, rfl, rfl⟩ := h
      obtain ⟨e, i, hu, hi, rfl, rfl, hz⟩ := elI_spec hel
      obtain ⟨i', zv, hi', hzv, hlen, hcr⟩ := zrI_spec (w := w) (ι := ι) (F := F) hz
      obtain rfl : i' = i := by rw [hi] at hi'; exact (Option.some.inj hi').symm
      obtain ⟨h1, h2⟩ := partsA_sound hρ hl
      have hc0 := cr_zeros (n := n) hcr (by omega)
      obtain ⟨us, hf, hcr'⟩ := fill_sound l _ _ cs _ h1 h2 hc0 hcs
      have hcl : cs.length = n * i'.size := by
        have : ∀ (ps : List (Nat × AV)) (a b : List AV), fillG (fun k => some (k * i'.size, i'.size)) a ps = some b → b.length = a.length := by
          intro ps
          induction ps with
          | nil => intro a b h; simp [fillG] at h; rw [h]
          | cons p ps ih =>
            intro a b h
            obtain ⟨f, x⟩ := p
            simp only [fillG] at h
            split at h
            · split at h
              · rename_i hh
                rw [ih _ _ h, spl_length (by rename_i off n cs' hpl _; simp at hpl; omega)]
              · simp at h
            · simp at h
        rw [this _ _ _ hcs]
        simp [hlen]
      rw [hlen] at hf
      refine ⟨.slice (some ⟨w.heap.size, 0, none⟩) n n, us, e, ?_, madeB_chunks hcr' hcl, .inr ⟨n, n, n, rfl, rfl, Nat.le_refl _, ⟨Nat.le_refl _, by have := Nat.le_mul_of_pos_right n hsz.2.2; omega⟩, by rw [← hcr'.1, hcl]; exact Nat.le_refl _⟩⟩
      have hne : n * i'.size ≠ 0 := Nat.mul_ne_zero (by omega) (by omega)
      simp only [execOp]
      simp only [Instr.buildSlice, Sem.run_bind, run_underlying hu, Result.andThen_ok, run_sizeOf' hi]
      rw [if_neg (by omega), if_neg hne]
      simp only [Sem.run_bind, Sem.run_pure, Result.andThen_ok, run_zeroValue' hi hzv]
      rw [hf]
      simp [newRow]
    · simp at h
  · simp at h

theorem m_makeSlice {t : TypeId} {x y : Operand} (hρ : Rho w ι F ρ r) (h : evO P ρ H slot (.makeSlice t x y) = some (c, v, some blk)) (hc : c) : Mk P w ι F r ⟨dst, .makeSlice t x y, ty, pos, aft, gd⟩ slot v blk := by
  simp only [evO] at h
  split at h
  · rename_i es by_ z k l k' m hel hx hy
    split at h
    · rename_i hpos
      simp only [Option.some.injEq, Prod.mk.injEq] at h
      obtain ⟨rfl, rfl, rfl⟩ := h
      obtain ⟨c1, c2, c3, c4⟩ := hc
      obtain ⟨e, i, hu, hi, rfl, rfl, hz⟩ := elI_spec hel
      obtain ⟨i', zv, hi', hzv, hlen, hcr⟩ := zrI_spec (w := w) (ι := ι) (F := F) hz
      obtain rfl : i' = i := by rw [hi] at hi'; exact (Option.some.inj hi').symm
      have ex := (hρ x _ hx).int_
      have ey := (hρ y _ hy).int_
      have e1 : IntKind.i64.wrap l = l := wrap_i64 (by unfold inI; omega)
      have e2 : IntKind.i64.wrap m = m := wrap_i64 (by unfold inI; omega)
      have hcc := cr_zeros (n := m.toNat) hcr (by omega)
      refine ⟨.slice (some ⟨w.heap.size, 0, none⟩) l.toNat m.toNat, (Array.range (m.toNat * i'.size)).map fun i => zv.cells[i % zv.cells.size]!, e, ?_, ?_, .inr ⟨l.toNat, m.toNat, m.toNat, rfl, rfl, by omega, ⟨Nat.le_refl _, by omega⟩, by simp⟩⟩
      · simp only [execOp]
        simp only [Instr.makeSlice, Sem.run_bind, run_underlying hu, Result.andThen_ok, ex, ey, asInt, asIntOf, Sem.run_pure, run_typeInfo' hi, e1, e2]
        have hq : (decide (m < 0) || decide ((i'.bytes : Int) * m > 2 ^ 48)) = false := by simp; omega
        have hq2 : ((decide (m < 0) || decide ((i'.bytes : Int) * m > 2 ^ 48)) || decide (l < 0) || decide (l > m)) = false := by rw [hq]; simp; omega
        rw [hq2]
        simp only [Bool.false_eq_true, if_false, Sem.run_bind, Sem.run_pure, Result.andThen_ok, run_askRoom, run_sizeOf' hi]
        by_cases h0 : m.toNat * i'.size = 0
        · rw [if_pos h0, h0]
          have hnil : ∀ f : Nat → Value, (Array.range 0).map f = #[] := fun f => by apply Array.eq_empty_of_size_eq_zero; simp
          simp only [Sem.run_pure, Result.andThen_ok, newRow, Sem.run_bind, run_newObj_alloc, hnil]
        · rw [if_neg h0]
          simp only [Sem.run_bind, run_zeroValue' hi hzv, Sem.run_pure, Result.andThen_ok]
          simp [newRow]
      · rw [← hlen]
        have hch := madeB_chunks (n := m.toNat) (es := z.length) hcc (by simp)
        have eq : ((List.range m.toNat).map fun i => ((List.replicate m.toNat z).flatten.drop (i * z.length)).take z.length) = List.replicate m.toNat z := by
          apply List.ext_getElem?
          intro i
          rcases Nat.lt_or_ge i m.toNat with h1 | h1
          · rw [List.getElem?_map, List.getElem?_range h1, Option.map_some, List.getElem?_replicate, if_pos h1]
            congr 1
            apply List.ext_getElem?
            intro j
            rw [List.getElem?_take]
            split
            · rename_i hj
              have hfit : i * z.length + z.length ≤ m.toNat * z.length := by rw [← Nat.succ_mul]; exact Nat.mul_le_mul_right _ h1
              rw [List.getElem?_drop, rep_get (by omega) (by omega)]
              congr 1
              rw [Nat.mul_comm, Nat.mul_add_mod, Nat.mod_eq_of_lt hj]
            · rename_i hj
              rw [List.getElem?_eq_none (by omega)]
          · rw [List.getElem?_eq_none (by simpa using h1), List.getElem?_eq_none (by simpa using h1)]
        rw [eq] at hch
        exact hch
    · simp at h
  · simp at h
end
end Go.Aw
