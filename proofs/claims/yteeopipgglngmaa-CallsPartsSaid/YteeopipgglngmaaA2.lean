/- References, worlds that change, and the operations that write. -/
import Derived.Test.YteeopipgglngmaaA1
import Derived.Laws.CopyRow
import Derived.Laws.AppendOwn
import Derived.Still
set_option linter.all false
set_option linter.unusedVariables false
set_option linter.unusedSimpArgs false
namespace Go.Aw
open Go

mutual
def refs : AV → List Nat
  | .sl id _ _ _ _ => [id]
  | .ptr id _ _ _ => [id]
  | .fn _ cap => refsL cap
  | .agg cs => refsL cs
  | .tup cs => refsL cs
  | _ => []
def refsL : List AV → List Nat
  | [] => []
  | c :: cs => refs c ++ refsL cs
end
def kill (id : Nat) (v : AV) : AV := if (refs v).contains id then .junk else v
def killT (id : Nat) (T : Nat → Option AV) : Nat → Option AV := fun t => (T t).map (kill id)
def killR (id : Nat) (rows : List (List AV)) : List (List AV) := rows.map fun row => row.map (kill id)
def killH (id : Nat) (H : List (Option Blk)) : List (Option Blk) := H.map fun o => o.map fun b => ⟨b.s, killR id b.rows⟩

theorem refsL_mem {cs : List AV} {j : Nat} {c : AV} (h : cs[j]? = some c) {id : Nat} (hid : id ∈ refs c) : id ∈ refsL cs := by
  induction cs generalizing j with
  | nil => simp at h
  | cons a cs ih =>
    cases j with
    | zero => simp at h; subst h; simp [refsL, hid]
    | succ j => simp [refsL, ih (by simpa using h)]

theorem VR.ren {w : World} {ι ι' : Imap} {F : Nat → Prop} {c : AV} {v : Value} (h : VR w ι F c v) : (∀ id ∈ refs c, ι' id = ι id) → VR w ι' F c v := by
  induction h with
  | fr h => exact fun _ => .fr h
  | sl0 id s off oa => exact fun _ => .sl0 id s off oa
  | sl id s off len m cap g base n e hι hsh hlen hm hfit => exact fun h => .sl id s off len m cap g base n e (by rw [h id (by simp [refs])]; exact hι) hsh hlen hm hfit
  | ptr id s i j g base hι => exact fun h => .ptr id s i j g base (by rw [h id (by simp [refs])]; exact hι)
  | fn f cap vs hl vals hv hrel ih => exact fun h => .fn f cap vs hl vals hv fun j c hc => ih j c hc fun id hid => h id (by simp only [refs]; exact refsL_mem hc hid)
  | agg cs vs hl vals hv hone hrel ih => exact fun h => .agg cs vs hl vals hv hone fun j c hc => ih j c hc fun id hid => h id (by simp only [refs]; exact refsL_mem hc hid)
  | tup cs vs hl vals hv hrel ih => exact fun h => .tup cs vs hl vals hv fun j c hc => ih j c hc fun id hid => h id (by simp only [refs]; exact refsL_mem hc hid)

theorem VR.killed {w : World} {ι ι' : Imap} {F : Nat → Prop} {c : AV} {v : Value} {k : Nat} (h : VR w ι F c v) (hι : ∀ id, id ≠ k → ι' id = ι id) : VR w ι' F (kill k c) v := by
  unfold kill
  split
  · exact .fr (.junk v)
  · rename_i hc
    exact h.ren fun id hid => hι id fun e => hc (by subst e; simpa using hid)

/-- What a world's change leaves of blocks that were not touched. -/
def Same (F : Nat → Prop) (w w' : World) : Prop := (∀ a : Addr, F a.block → w'.cell? a = w.cell? a) ∧ ∀ g x, w.shape? g = some x → w'.shape? g = some x

theorem VR.same {w w' : World} {ι : Imap} {F : Nat → Prop} {c : AV} {v : Value} (h : VR w ι F c v) (hs : Same F w w') : VR w' ι F c v := h.mono (fun _ h => h) hs.1 hs.2 fun _ _ h => h

theorem shape_of_row {w : World} {g : Nat} {cs : Array Value} {e : TypeId} {fz : Nat × Nat} (h : w.heap[g]? = some (.cells cs e fz)) : w.shape? g = some (e, cs.size) := by simp [World.shape?, h]

theorem cell_block {w w' : World} {a : Addr} (h : w'.heap[a.block]? = w.heap[a.block]?) : w'.cell? a = w.cell? a := by simp [World.cell?, h]
theorem shape_block {w w' : World} {g : Nat} (h : w'.heap[g]? = w.heap[g]?) : w'.shape? g = w.shape? g := by simp [World.shape?, h]

theorem Same.setRow {F : Nat → Prop} {w : World} {g : Nat} {cs cs' : Array Value} {e : TypeId} {fz : Nat × Nat} (hg : w.heap[g]? = some (.cells cs e fz)) (hsz : cs'.size = cs.size) (hF : ¬ F g) : Same F w (w.setRow g cs') := by
  constructor
  · intro a ha
    exact cell_block (setRow_other w g a.block cs' (fun e => hF (by rwa [← e])))
  · intro k x hx
    by_cases hk : k = g
    · subst hk
      rw [shape_of_row hg] at hx
      rw [shape_of_row (setRow_heap w k cs cs' e fz hg), hsz]
      exact hx
    · rw [shape_block (setRow_other w g k cs' hk)]
      exact hx

theorem Same.alloc {F : Nat → Prop} {w : World} (o : Obj) (hF : ∀ g, F g → g < w.heap.size) : Same F w (w.alloc o) := by
  constructor
  · intro a ha
    exact cell_block (heap_alloc_old w o (hF _ ha))
  · intro g x hx
    have hlt : g < w.heap.size := by
      unfold World.shape? at hx
      split at hx
      · rename_i h; exact (Array.getElem?_eq_some_iff.1 h).1
      · cases hx
    rw [shape_block (heap_alloc_old w o hlt)]
    exact hx

/-- The heap's blocks, ι defined on the living alone. -/
structure RelL (w : World) (ι : Imap) (F : Nat → Prop) (H : List (Option Blk)) : Prop extends RelH w ι F H where
  dom : ∀ id x, ι id = some x → ∃ b, H[id]? = some (some b)

theorem heap_lt {w : World} {g : Nat} {o : Obj} (h : w.heap[g]? = some o) : g < w.heap.size := (Array.getElem?_eq_some_iff.1 h).1

theorem HB.same {w w' : World} {ι : Imap} {F : Nat → Prop} {id : Nat} {b : Blk} (h : HB w ι F id b) (hs : Same F w w') (hk : ∀ g base, ι id = some (g, base) → w'.heap[g]? = w.heap[g]?) : HB w' ι F id b := by
  refine ⟨h.1, h.2.1, fun g base hι => ?_⟩
  obtain ⟨cs, e, vals, h1, h2, h3, h4⟩ := h.2.2 g base hι
  exact ⟨cs, e, vals, by rw [hk g base hι]; exact h1, h2, h3, fun i row j c hi hc => (h4 i row j c hi hc).same hs⟩

/-- A block is written over: the row of the same place, of the same length or longer. -/
theorem RelL.write {w : World} {ι : Imap} {F : Nat → Prop} {H : List (Option Blk)} (h : RelL w ι F H) {id g base : Nat} {b b' : Blk} {cs cs' : Array Value} {e : TypeId} (hid : H[id]? = some (some b)) (hι : ι id = some (g, base))
    (hg : w.heap[g]? = some (.cells cs e (0, 0))) (hsz : cs'.size = cs.size)
    (hb : (∀ (i : Nat) (row : List AV), b'.rows[i]? = some row → row.length = b'.s) ∧ base + b'.rows.length * b'.s ≤ cs'.size ∧ ∃ vals : Nat → Nat → Value, (∀ i j, i < b'.rows.length → j < b'.s → cs'[base + i * b'.s + j]? = some (vals i j) ∧ (vals i j).oneCell' = true) ∧
      ∀ (i : Nat) (row : List AV) (j : Nat) (c : AV), b'.rows[i]? = some row → row[j]? = some c → VR w ι F c (vals i j)) :
    RelL (w.setRow g cs') ι F (H.set id (some b')) ∧ Ext ι H F w ι (H.set id (some b')) F (w.setRow g cs') ∧ Same F w (w.setRow g cs') := by
  have hFg : ¬ F g := h.apart id b g base hid hι
  have hs := Same.setRow (F := F) (cs' := cs') hg hsz hFg
  have hlen : id < H.length := (List.getElem?_eq_some_iff.1 hid).1
  have hat : ∀ {k : Nat} {c : Blk}, (H.set id (some b'))[k]? = some (some c) → (k = id ∧ c = b') ∨ (k ≠ id ∧ H[k]? = some (some c)) := by
    intro k c hk
    by_cases hki : k = id
    · subst hki
      rw [List.getElem?_set_self hlen] at hk
      simp at hk
      exact .inl ⟨rfl, hk.symm⟩
    · rw [List.getElem?_set_ne (Ne.symm hki)] at hk
      exact .inr ⟨hki, hk⟩
  have live : ∀ {k : Nat} {c : Blk}, (H.set id (some b'))[k]? = some (some c) → ∃ c', H[k]? = some (some c') := by
    intro k c hk
    rcases hat hk with ⟨rfl, _⟩ | ⟨_, hk⟩
    · exact ⟨b, hid⟩
    · exact ⟨c, hk⟩
  refine ⟨⟨⟨fun k c hk => ?_, fun k k' c c' g1 x g2 x' hk hk' h1 h2 hne => ?_, fun k c g1 x hk h1 => ?_, fun g hg => by simpa using h.fz g hg⟩, fun k x hx => ?_⟩, ?_, hs⟩
  · rcases hat hk with ⟨rfl, rfl⟩ | ⟨hki, hk⟩
    · obtain ⟨h1, h2, vals, h3, h4⟩ := hb
      refine ⟨h1, fun h0 => (by rw [hι] at h0; cases h0), fun g1 base1 h5 => ?_⟩
      rw [hι] at h5
      simp only [Option.some.injEq, Prod.mk.injEq] at h5
      obtain ⟨rfl, rfl⟩ := h5
      exact ⟨cs', e, vals, setRow_heap w g cs cs' e (0, 0) hg, h2, h3, fun i row j c hi hc => (h4 i row j c hi hc).same hs⟩
    · refine (h.blk k c hk).same hs fun g1 base1 h5 => setRow_other w g g1 cs' ?_
      exact h.inj k id c b g1 base1 g base hk hid h5 hι hki
  · obtain ⟨d, hd⟩ := live hk
    obtain ⟨d', hd'⟩ := live hk'
    exact h.inj k k' d d' g1 x g2 x' hd hd' h1 h2 hne
  · obtain ⟨d, hd⟩ := live hk
    exact h.apart k d g1 x hd h1
  · obtain ⟨c, hc⟩ := h.dom k x hx
    by_cases hki : k = id
    · subst hki; exact ⟨b', by rw [List.getElem?_set_self hlen]⟩
    · exact ⟨c, by rw [List.getElem?_set_ne (Ne.symm hki)]; exact hc⟩
  · refine ⟨by simp, fun k hk hnf => setRow_other w g k cs' fun e => hnf ⟨id, b, base, hid, by rw [e]; exact hι⟩, hs.2, rfl, rfl, rfl, fun _ h => h, fun _ h => .inl h, fun k ⟨id', c, x, h1, h2⟩ => ?_⟩
    obtain ⟨d, hd⟩ := live h1
    exact .inl ⟨id', d, x, hd, h2⟩

/-- A block is made. -/
theorem RelL.make {w : World} {ι : Imap} {F : Nat → Prop} {H : List (Option Blk)} (h : RelL w ι F H) {slot : Nat} {b : Blk} {cs : Array Value} {e : TypeId} (hs : H[slot]? = some none) (hb : MadeB w ι F b cs) :
    let ι' : Imap := fun id => if id = slot then some (w.heap.size, 0) else ι id
    RelL (w.alloc (.cells cs e (0, 0))) ι' F (H.set slot (some b)) ∧ Ext ι H F w ι' (H.set slot (some b)) F (w.alloc (.cells cs e (0, 0))) ∧ Same F w (w.alloc (.cells cs e (0, 0))) ∧ (∀ id x, ι id = some x → ι' id = some x) := by
  intro ι'
  have hnone : ι slot = none := by
    cases hh : ι slot with
    | none => rfl
    | some x =>
      obtain ⟨b, hb⟩ := h.dom slot x hh
      rw [hs] at hb
      cases hb
  have hsame := Same.alloc (F := F) (w := w) (.cells cs e (0, 0)) h.fz
  have hlen : slot < H.length := (List.getElem?_eq_some_iff.1 hs).1
  have hold : ∀ id x, ι id = some x → ι' id = some x := by
    intro id x hx
    show (if id = slot then _ else _) = _
    rw [if_neg (by intro e; subst e; rw [hnone] at hx; cases hx)]
    exact hx
  have hat : ∀ {k : Nat} {c : Blk}, (H.set slot (some b))[k]? = some (some c) → (k = slot ∧ c = b) ∨ (k ≠ slot ∧ H[k]? = some (some c) ∧ ι' k = ι k) := by
    intro k c hk
    by_cases hki : k = slot
    · subst hki
      rw [List.getElem?_set_self hlen] at hk
      simp at hk
      exact .inl ⟨rfl, hk.symm⟩
    · rw [List.getElem?_set_ne (Ne.symm hki)] at hk
      exact .inr ⟨hki, hk, if_neg hki⟩
  have hsl : ι' slot = some (w.heap.size, 0) := if_pos rfl
  have hlt : ∀ {k : Nat} {c : Blk} {g x : Nat}, H[k]? = some (some c) → ι k = some (g, x) → g < w.heap.size := by
    intro k c g x hk hx
    obtain ⟨_, _, _, h1, _⟩ := (h.blk k c hk).2.2 g x hx
    exact heap_lt h1
  have hvr : ∀ {c : AV} {v : Value}, VR w ι F c v → VR (w.alloc (.cells cs e (0, 0))) ι' F c v := fun hv => hv.mono (fun _ h => h) hsame.1 hsame.2 hold
  refine ⟨⟨⟨fun k c hk => ?_, fun k k' c c' g1 x g2 x' hk hk' h1 h2 hne => ?_, fun k c g1 x hk h1 => ?_, fun g hg => by have := h.fz g hg; simp; omega⟩, fun k x hx => ?_⟩, ?_, hsame, hold⟩
  · rcases hat hk with ⟨rfl, rfl⟩ | ⟨hki, hk, he⟩
    · obtain ⟨h1, h2, vals, h3, h4⟩ := hb
      refine ⟨h1, fun h0 => (by rw [hsl] at h0; cases h0), fun g1 base1 h5 => ?_⟩
      rw [hsl] at h5
      simp only [Option.some.injEq, Prod.mk.injEq] at h5
      obtain ⟨rfl, rfl⟩ := h5
      exact ⟨cs, e, vals, heap_alloc_new w _, by omega, fun i j hi hj => by rw [Nat.zero_add]; exact h3 i j hi hj, fun i row j c hi hc => hvr (h4 i row j c hi hc)⟩
    · obtain ⟨h1, h2, h3⟩ := h.blk k c hk
      refine ⟨h1, fun h0 => h2 (by rw [he] at h0; exact h0), fun g1 base1 h5 => ?_⟩
      rw [he] at h5
      obtain ⟨cs1, e1, vals, h6, h7, h8, h9⟩ := h3 g1 base1 h5
      exact ⟨cs1, e1, vals, by rw [heap_alloc_old w _ (heap_lt h6)]; exact h6, h7, h8, fun i row j c hi hc => hvr (h9 i row j c hi hc)⟩
  · rcases hat hk with ⟨hq, hq2⟩ | ⟨hki, hkk, he⟩ <;> rcases hat hk' with ⟨hq', hq2'⟩ | ⟨hki', hkk', he'⟩
    · exact absurd (hq.trans hq'.symm) hne
    · rw [hq, hsl] at h1
      rw [he'] at h2
      simp only [Option.some.injEq, Prod.mk.injEq] at h1
      have := hlt hkk' h2
      omega
    · rw [hq', hsl] at h2
      rw [he] at h1
      simp only [Option.some.injEq, Prod.mk.injEq] at h2
      have := hlt hkk h1
      omega
    · rw [he] at h1
      rw [he'] at h2
      exact h.inj k k' c c' g1 x g2 x' hkk hkk' h1 h2 hne
  · rcases hat hk with ⟨rfl, rfl⟩ | ⟨hki, hk, he⟩
    · rw [hsl] at h1
      simp only [Option.some.injEq, Prod.mk.injEq] at h1
      intro hF
      have := h.fz g1 hF
      omega
    · rw [he] at h1
      exact h.apart k c g1 x hk h1
  · by_cases hki : k = slot
    · subst hki; exact ⟨b, by rw [List.getElem?_set_self hlen]⟩
    · have : ι k = some x := by rw [← hx]; exact (if_neg hki).symm
      obtain ⟨c, hc⟩ := h.dom k x this
      exact ⟨c, by rw [List.getElem?_set_ne (Ne.symm hki)]; exact hc⟩
  · refine ⟨by simp, fun k hk hnf => heap_alloc_old w _ hk, hsame.2, rfl, rfl, rfl, fun _ h => h, fun _ h => .inl h, fun k ⟨id', c, x, h1, h2⟩ => ?_⟩
    rcases hat h1 with ⟨rfl, rfl⟩ | ⟨hki, hk, he⟩
    · rw [hsl] at h2
      simp only [Option.some.injEq, Prod.mk.injEq] at h2
      exact .inr (by omega)
    · rw [he] at h2
      exact .inl ⟨id', c, x, hk, h2⟩
end Go.Aw

/- The operations that write: store, append, copy, clear. -/
set_option linter.unusedVariables false
set_option linter.unusedSimpArgs false
namespace Go.Aw
open Go

def srcRows (H : List (Option Blk)) (es : Nat) : AV → Option (Prop × List (List AV))
  | .sl id s off len _ => match H[id]? with
    | some (some b) => if b.s = s ∧ s = es then some (off + len ≤ b.rows.length, (b.rows.drop off).take len) else none
    | _ => none
  | .ro s rows => if s = es ∨ rows.isEmpty then some (s = es ∨ rows = [], rows) else none
  | .nils => some (True, [])
  | _ => none

/-- The operations that write: what is owed, what they yield, the heap behind them, whose old words are void. -/
def evWB (P : Program) (ρ : Operand → Option AV) (H : List (Option Blk)) (slot : Nat) : Builtin → List Operand → List TypeId → Option (Prop × AV × List (Option Blk) × Option Nat)
  | .append, [s, x], [t, t'] => if t = t' then match elI P t with
    | some (es, by_, _) => if 0 < es then match ρ s, (ρ x).bind (srcRows H es) with
      | some .nils, some (c, news) => some (c ∧ news.length * by_ ≤ 140737488355328 ∧ news.length ≤ 140737488355328, .sl slot es 0 news.length news.length, H.set slot (some ⟨es, news⟩), none)
      | some (.sl id s off len _), some (c, news) => match H[id]? with
        | some (some b) => if b.s = s ∧ s = es then some (c ∧ off + len ≤ b.rows.length ∧ (len + news.length) * by_ ≤ 140737488355328 ∧ len + news.length ≤ 140737488355328, .sl id es 0 (len + news.length) (len + news.length),
            (killH id H).set id (some ⟨es, killR id ((b.rows.drop off).take len ++ news)⟩), some id) else none
        | _ => none
      | _, _ => none
      else none
    | none => none
    else none
  | .copy, [d, x], [t, t'] => match elI P t with
    | some (es, _, _) => if 0 < es then match ρ d, (ρ x).bind (srcRows H es) with
      | some (.sl id s off len _), some (c, news) => match H[id]? with
        | some (some b) => if b.s = s ∧ s = es then some (c ∧ off + len ≤ b.rows.length, .int .i64 (Nat.min news.length len),
            H.set id (some ⟨es, b.rows.take off ++ news.take (Nat.min news.length len) ++ b.rows.drop (off + Nat.min news.length len)⟩), none) else none
        | _ => none
      | _, _ => none
      else none
    | none => none
  | .clear, [d], [t] => match elI P t with
    | some (es, _, z) => if 0 < es then match ρ d with
      | some (.sl id s off len _) => match H[id]? with
        | some (some b) => if b.s = s ∧ s = es then some (off + len ≤ b.rows.length, .tup [],
            H.set id (some ⟨es, b.rows.take off ++ List.replicate len z ++ b.rows.drop (off + len)⟩), none) else none
        | _ => none
      | some .nils => some (True, .tup [], H, none)
      | _ => none
      else none
    | none => none
  | _, _, _ => none
def evW (P : Program) (ρ : Operand → Option AV) (H : List (Option Blk)) (slot : Nat) : Op → Option (Prop × AV × List (Option Blk) × Option Nat)
  | .store t p x => match szI P t, ρ p, (ρ x).bind cellsQ with
    | some n, some (.ptr id s i j), some cs => match H[id]? with
      | some (some b) => if b.s = s ∧ cs.length = n then some (i < b.rows.length ∧ j + n ≤ (b.rows.getD i []).length, .tup [], H.set id (some ⟨s, b.rows.set i (spl (b.rows.getD i []) j cs)⟩), none) else none
      | _ => none
    | _, _, _ => none
  | .call c => match c.callee with
    | .builtin b => evWB P ρ H slot b c.args.toList c.argTypes.toList
    | _ => none
  | _ => none

def killO (k : Option Nat) (c : AV) : AV := match k with
  | none => c
  | some id => kill id c

section
variable {P : Program} {w : World} {ι : Imap} {F : Nat → Prop} {H : List (Option Blk)} {slot : Nat} {ρ : Operand → Option AV} {r : Operand → Value} {c : Prop} {v : AV}
variable {dst : Option Tmp} {ty : TypeId} {pos : String} {aft : Array Edge} {gd : Option (Nat × Bool)}

def Wrt (P : Program) (w : World) (ι : Imap) (F : Nat → Prop) (H : List (Option Blk)) (r : Operand → Value) (o : Oper) (v : AV) (H' : List (Option Blk)) (k : Option Nat) : Prop :=
  ∃ (w' : World) (ι' : Imap) (u : Value), ((execOp r o).run P w = .ok (.value u) w' ∨ ((execOp r o).run P w = .ok .skip w' ∧ u = undef)) ∧ VR w' ι' F v u ∧ RelL w' ι' F H' ∧ Ext ι H F w ι' H' F w' ∧
    ∀ c x, VR w ι F c x → VR w' ι' F (killO k c) x

theorem CR.one {cs : List AV} {us : Array Value} (h : CR w ι F cs us) : ∀ u ∈ us.toList, u.oneCell' = true := by
  intro u hu
  obtain ⟨j, hj, rfl⟩ := List.mem_iff_getElem.1 hu
  have hjl : j < cs.length := by rw [h.1]; simpa using hj
  obtain ⟨x, hx, h1, _⟩ := h.2 j cs[j] (List.getElem?_eq_getElem hjl)
  have : x = us.toList[j] := by
    have := (Array.getElem?_eq_some_iff.1 hx).2
    simpa using this.symm
  rw [← this]
  exact h1

theorem seg_get {cur vs : List Value} {o k : Nat} (h : o + vs.length ≤ cur.length) : (cur.take o ++ vs ++ cur.drop (o + vs.length))[k]? = if o ≤ k ∧ k < o + vs.length then vs[k - o]? else cur[k]? := by
  have hl : (cur.take o).length = o := by simp; omega
  rw [List.append_assoc, List.getElem?_append, hl]
  split
  · rw [if_neg (by omega), List.getElem?_take, if_pos (by omega)]
  · rw [List.getElem?_append]
    split
    · rw [if_pos (by omega)]
    · rw [if_neg (by omega), List.getElem?_drop]
      congr 1
      omega

theorem mul_sep {i i' s : Nat} (h : i' < i) : i' * s + s ≤ i * s := by rw [← Nat.succ_mul]; exact Nat.mul_le_mul_right _ h

/-- A segment of a block's cells is written: rows by rows. -/
theorem block_seg {b b' : Blk} {cur : Array Value} {base o : Nat} {vs : List Value} {vals : Nat → Nat → Value} (hfit : base + b.rows.length * b.s ≤ cur.size) (hs : b'.s = b.s) (hlen : b'.rows.length = b.rows.length)
    (hcell : ∀ i j, i < b.rows.length → j < b.s → cur[base + i * b.s + j]? = some (vals i j) ∧ (vals i j).oneCell' = true)
    (hrel : ∀ (i : Nat) (row : List AV) (j : Nat) (c : AV), b.rows[i]? = some row → row[j]? = some c → VR w ι F c (vals i j))
    (hrows : ∀ (i : Nat) (row : List AV), b'.rows[i]? = some row → row.length = b'.s)
    (ho : o + vs.length ≤ cur.size) (hone : ∀ u ∈ vs, u.oneCell' = true)
    (hin : ∀ (i : Nat) (row : List AV) (j : Nat) (c : AV), b'.rows[i]? = some row → row[j]? = some c → j < b.s → if o ≤ base + i * b.s + j ∧ base + i * b.s + j < o + vs.length then ∃ x, vs[base + i * b.s + j - o]? = some x ∧ VR w ι F c x else ∃ row', b.rows[i]? = some row' ∧ row'[j]? = some c) :
    (∀ (i : Nat) (row : List AV), b'.rows[i]? = some row → row.length = b'.s) ∧ base + b'.rows.length * b'.s ≤ (cur.toList.take o ++ vs ++ cur.toList.drop (o + vs.length)).toArray.size ∧ ∃ vals : Nat → Nat → Value,
      (∀ i j, i < b'.rows.length → j < b'.s → (cur.toList.take o ++ vs ++ cur.toList.drop (o + vs.length)).toArray[base + i * b'.s + j]? = some (vals i j) ∧ (vals i j).oneCell' = true) ∧
      ∀ (i : Nat) (row : List AV) (j : Nat) (c : AV), b'.rows[i]? = some row → row[j]? = some c → VR w ι F c (vals i j) := by
  refine ⟨hrows, ?_, fun i j => if o ≤ base + i * b.s + j ∧ base + i * b.s + j < o + vs.length then vs.getD (base + i * b.s + j - o) default else vals i j, fun i j hi hj => ?_, fun i row j c hi hc => ?_⟩
  · rw [hlen, hs]
    simp
    omega
  · rw [hlen] at hi
    rw [hs] at hj ⊢
    have hg := seg_get (cur := cur.toList) (vs := vs) (o := o) (k := base + i * b.s + j) (by simpa using ho)
    rw [List.getElem?_toArray, hg]
    by_cases hcase : o ≤ base + i * b.s + j ∧ base + i * b.s + j < o + vs.length
    · simp only [if_pos hcase]
      have hlt : base + i * b.s + j - o < vs.length := by omega
      rw [List.getElem?_eq_getElem hlt]
      refine ⟨by simp [List.getD_eq_getElem?_getD, List.getElem?_eq_getElem hlt], ?_⟩
      have : vs.getD (base + i * b.s + j - o) default = vs[base + i * b.s + j - o] := by simp [List.getD_eq_getElem?_getD, List.getElem?_eq_getElem hlt]
      rw [this]
      exact hone _ (List.getElem_mem hlt)
    · simp only [if_neg hcase]
      have := hcell i j hi hj
      exact ⟨by simpa using this.1, this.2⟩
  · have hj : j < b.s := by
      rw [← hs, ← hrows i row hi]
      exact (List.getElem?_eq_some_iff.1 hc).1
    have h1 := hin i row j c hi hc hj
    by_cases hcase : o ≤ base + i * b.s + j ∧ base + i * b.s + j < o + vs.length
    · rw [if_pos hcase] at h1
      simp only [if_pos hcase]
      obtain ⟨x, hx, hr⟩ := h1
      simpa [List.getD_eq_getElem?_getD, hx] using hr
    · rw [if_neg hcase] at h1
      simp only [if_neg hcase]
      obtain ⟨row', h2, h3⟩ := h1
      exact hrel i row' j c h2 h3

theorem w_store {t : TypeId} {p x : Operand} {H' : List (Option Blk)} {k : Option Nat} (hρ : Rho w ι F ρ r) (hH : RelL w ι F H) (h : evW P ρ H slot (.store t p x) = some (c, v, H', k)) (hc : c) : Wrt P w ι F H r ⟨dst, .store t p x, ty, pos, aft, gd⟩ v H' k := by
  simp only [evW] at h
  split at h
  · rename_i n id s i j cs hn hp hx
    split at h
    · rename_i b hb
      split at h
      · rename_i hs
        obtain ⟨rfl, hcl⟩ := hs
        simp only [Option.some.injEq, Prod.mk.injEq] at h
        obtain ⟨rfl, rfl, rfl, rfl⟩ := h
        obtain ⟨hi, hj⟩ := hc
        obtain ⟨g, base, hι, ep⟩ := (hρ p _ hp).ptr_
        rw [Option.bind_eq_some_iff] at hx
        obtain ⟨xv, hxv, hq⟩ := hx
        have hcr := cellsQ_cr (hρ x xv hxv) hq
        obtain ⟨hrl, _, hblk⟩ := hH.blk id b hb
        obtain ⟨cur, e, vals, hh, hfit, hcell, hrel⟩ := hblk g base hι
        have eg : b.rows.getD i [] = b.rows[i] := by simp [List.getD_eq_getElem?_getD, List.getElem?_eq_getElem hi]
        rw [eg] at hj ⊢
        have hrli := hrl i _ (List.getElem?_eq_getElem hi)
        have hvl : (r x).cells.toList.length = n := by rw [Array.length_toList, ← hcr.1, hcl]
        have hsep : i * b.s + b.s ≤ b.rows.length * b.s := mul_sep hi
        have hrun := run_storeCells_at P g (base + i * b.s + j) e (r x).cells.toList 0 cur w hh (by rw [hvl]; omega) hcr.one
        simp only [Nat.add_zero] at hrun
        have hspl : (spl b.rows[i] j cs).length = b.s := by rw [spl_length (by omega)]; exact hrli
        have hseg := block_seg (w := w) (ι := ι) (F := F) (b := b) (b' := ⟨b.s, b.rows.set i (spl b.rows[i] j cs)⟩) (cur := cur) (base := base) (o := base + i * b.s + j) (vs := (r x).cells.toList) (vals := vals) hfit rfl (by simp) hcell hrel
          (fun i' row hi' => by
            simp only at hi'
            by_cases hii : i' = i
            · subst hii
              rw [List.getElem?_set_self hi] at hi'
              simp only [Option.some.injEq] at hi'
              rw [← hi']
              exact hspl
            · rw [List.getElem?_set_ne (Ne.symm hii)] at hi'
              exact hrl i' row hi')
          (by rw [hvl]; omega) hcr.one
          (fun i' row j' c hi' hc hj' => by
            simp only at hi'
            by_cases hii : i' = i
            · subst hii
              rw [List.getElem?_set_self hi] at hi'
              simp only [Option.some.injEq] at hi'
              subst hi'
              rw [spl_get (by omega)] at hc
              by_cases hin : j ≤ j' ∧ j' < j + cs.length
              · rw [if_pos hin] at hc
                rw [if_pos (by omega)]
                obtain ⟨y, hy, _, hr⟩ := hcr.2 _ c hc
                exact ⟨y, by rw [Array.getElem?_toList, ← hy]; congr 1; omega, hr⟩
              · rw [if_neg hin] at hc
                rw [if_neg (by omega)]
                exact ⟨_, List.getElem?_eq_getElem hi, hc⟩
            · rw [List.getElem?_set_ne (Ne.symm hii)] at hi'
              rw [if_neg (by
                rcases Nat.lt_or_gt_of_ne hii with h1 | h1
                · have := mul_sep (s := b.s) h1; omega
                · have := mul_sep (s := b.s) h1; omega)]
              exact ⟨row, hi', hc⟩)
        have hsz : (cur.toList.take (base + i * b.s + j) ++ (r x).cells.toList ++ cur.toList.drop (base + i * b.s + j + (r x).cells.toList.length)).toArray.size = cur.size := by
          simp only [List.size_toArray, List.length_append, List.length_take, List.length_drop, Array.length_toList]
          rw [Array.length_toList] at hvl
          omega
        obtain ⟨hR, hE, hS⟩ := hH.write hb hι hh hsz hseg
        unfold szI at hn
        rw [Option.map_eq_some_iff] at hn
        obtain ⟨ti, hti, rfl⟩ := hn
        refine ⟨_, ι, undef, .inr ⟨?_, rfl⟩, .mk_tup (us := #[]) rfl (by simp), hR, hE, fun c y hy => hy.same hS⟩
        have hne : (r x).cells.size = ti.size := by rw [← hcr.1, hcl]
        simp only [execOp]
        simp only [Instr.storeAt, Sem.run_bind, ep, Instr.sureAddr, Sem.run_pure, Result.andThen_ok, storeVar, run_sizeOf' hti]
        rw [if_neg (by simpa using hne), hrun]
        rfl
      · simp at h
    · simp at h
  · simp at h
end
end Go.Aw

/- append, copy, clear. -/
set_option linter.unusedVariables false
set_option linter.unusedSimpArgs false
namespace Go.Aw
open Go

section
variable {P : Program} {w : World} {ι : Imap} {F : Nat → Prop} {H : List (Option Blk)} {slot : Nat} {ρ : Operand → Option AV} {r : Operand → Value} {c : Prop} {v : AV}
variable {dst : Option Tmp} {ty : TypeId} {pos : String} {aft : Array Edge} {gd : Option (Nat × Bool)}

/-- A source of rows: its value, and the cells behind it. -/
theorem src_sound {es : Nat} {a : AV} {u : Value} {rows : List (List AV)} (h : srcRows H es a = some (c, rows)) (hc : c) (hr : VR w ι F a u) (hH : RelL w ι F H) :
    ∃ (oa : Option Addr) (cap : Nat) (news : List Value), u = .slice oa rows.length cap ∧ news.length = rows.length * es ∧ (∀ w' : World, (∀ (b : Nat) (x : Obj), w.heap[b]? = some x → w'.heap[b]? = some x) → (Builtin.firstCells es rows.length u).run P w' = .ok news.toArray w') ∧
      (∀ n, n ≤ rows.length → ∀ w' : World, (∀ (b : Nat) (x : Obj), w.heap[b]? = some x → w'.heap[b]? = some x) → (Builtin.firstCells es n u).run P w' = .ok (news.take (n * es)).toArray w') ∧
      (∀ x ∈ news, x.oneCell' = true) ∧ (∀ (i : Nat) (row : List AV), rows[i]? = some row → row.length = es) ∧ ∀ (i : Nat) (row : List AV) (j : Nat) (d : AV), rows[i]? = some row → row[j]? = some d → ∃ x, news[i * es + j]? = some x ∧ VR w ι F d x := by
  -- from cells one by one
  have build : ∀ (oa : Option Addr) (cap n : Nat) (vals : Nat → Nat → Value), u = .slice oa rows.length cap → (∀ (i : Nat) (row : List AV), rows[i]? = some row → row.length = es) →
      (0 < rows.length → ∃ ad, oa = some ad ∧ ad.spot = none ∧ ∀ i j, i < rows.length → j < es → w.cell? ⟨ad.block, ad.off + (i * es + j), none⟩ = some (vals i j) ∧ (vals i j).oneCell' = true) →
      (∀ (i : Nat) (row : List AV) (j : Nat) (d : AV), rows[i]? = some row → row[j]? = some d → VR w ι F d (vals i j)) →
      ∃ (oa : Option Addr) (cap : Nat) (news : List Value), u = .slice oa rows.length cap ∧ news.length = rows.length * es ∧ (∀ w' : World, (∀ (b : Nat) (x : Obj), w.heap[b]? = some x → w'.heap[b]? = some x) → (Builtin.firstCells es rows.length u).run P w' = .ok news.toArray w') ∧
      (∀ n, n ≤ rows.length → ∀ w' : World, (∀ (b : Nat) (x : Obj), w.heap[b]? = some x → w'.heap[b]? = some x) → (Builtin.firstCells es n u).run P w' = .ok (news.take (n * es)).toArray w') ∧
      (∀ x ∈ news, x.oneCell' = true) ∧ (∀ (i : Nat) (row : List AV), rows[i]? = some row → row.length = es) ∧ ∀ (i : Nat) (row : List AV) (j : Nat) (d : AV), rows[i]? = some row → row[j]? = some d → ∃ x, news[i * es + j]? = some x ∧ VR w ι F d x := by
    intro oa cap n vals hu hrl hcell hrel
    have hdm : ∀ k, k < rows.length * es → k / es < rows.length ∧ k % es < es ∧ k / es * es + k % es = k := by
      intro k hk
      have hes : 0 < es := by
        rcases Nat.eq_zero_or_pos es with h0 | h0
        · subst h0; simp at hk
        · exact h0
      exact ⟨(Nat.div_lt_iff_lt_mul hes).2 hk, Nat.mod_lt _ hes, by rw [Nat.mul_comm]; exact Nat.div_add_mod k es⟩
    have hall : ∀ n, n ≤ rows.length → ∀ w' : World, (∀ (b : Nat) (x : Obj), w.heap[b]? = some x → w'.heap[b]? = some x) → (Builtin.firstCells es n u).run P w' = .ok (((List.range (rows.length * es)).map fun k => vals (k / es) (k % es)).take (n * es)).toArray w' := by
      intro n hn w' hw'
      rcases Nat.eq_zero_or_pos rows.length with h0 | h0
      · obtain rfl : n = 0 := by omega
        subst hu
        cases oa with
        | none => simp [Builtin.firstCells]
        | some ad => simp [Builtin.firstCells, loadCells, loadCellsFrom]
      · obtain ⟨ad, rfl, hsp, hc'⟩ := hcell h0
        subst hu
        have hle : n * es ≤ rows.length * es := Nat.mul_le_mul_right _ hn
        refine run_firstCells_some (P := P) w' es n ad rows.length cap _ (by rw [List.length_take, List.length_map, List.length_range]; omega) fun j x hj => ?_
        rw [List.getElem?_take] at hj
        split at hj
        · rename_i hjn
          rw [List.getElem?_map, List.getElem?_range (by omega)] at hj
          simp only [Option.map_some, Option.some.injEq] at hj
          obtain ⟨h1, h2, h3⟩ := hdm j (by omega)
          have := (hc' _ _ h1 h2).1
          rw [h3] at this
          rw [addr_add _ _ hsp, ← hj, ← this]
          refine cell_block ?_
          cases hx : w.heap[ad.block]? with
          | none => simp [World.cell?, hx] at this
          | some y => exact hw' _ _ hx
        · simp at hj
    refine ⟨oa, cap, (List.range (rows.length * es)).map fun k => vals (k / es) (k % es), hu, by simp, fun w' hw' => ?_, hall, fun x hx => ?_, hrl, fun i row j d hi hd => ?_⟩
    · have := hall rows.length (Nat.le_refl _) w' hw'
      rwa [List.take_of_length_le (by simp)] at this
    · simp only [List.mem_map, List.mem_range] at hx
      obtain ⟨k, hk, rfl⟩ := hx
      obtain ⟨h1, h2, h3⟩ := hdm k hk
      obtain ⟨ad, _, _, hc'⟩ := hcell (Nat.lt_of_le_of_lt (Nat.zero_le _) h1)
      exact (hc' _ _ h1 h2).2
    · have hil : i < rows.length := (List.getElem?_eq_some_iff.1 hi).1
      have hjl : j < es := by rw [← hrl i row hi]; exact (List.getElem?_eq_some_iff.1 hd).1
      have hk : i * es + j < rows.length * es := by
        have := mul_sep (s := es) hil
        omega
      refine ⟨vals i j, ?_, hrel i row j d hi hd⟩
      rw [List.getElem?_map, List.getElem?_range hk]
      have e1 : (i * es + j) / es = i := by rw [Nat.mul_comm, Nat.mul_add_div (by omega), Nat.div_eq_of_lt hjl, Nat.add_zero]
      have e2 : (i * es + j) % es = j := by rw [Nat.mul_comm, Nat.mul_add_mod, Nat.mod_eq_of_lt hjl]
      simp [e1, e2]
  unfold srcRows at h
  split at h
  · rename_i id s off len m
    split at h
    · rename_i b hb
      split at h
      · rename_i hs
        obtain ⟨rfl, rfl⟩ := hs
        simp only [Option.some.injEq, Prod.mk.injEq] at h
        obtain ⟨rfl, rfl⟩ := h
        have hlen : ((b.rows.drop off).take len).length = len := by simp; omega
        have hat : ∀ (i : Nat) (row : List AV), ((b.rows.drop off).take len)[i]? = some row → b.rows[off + i]? = some row := by
          intro i row hi
          rw [List.getElem?_take, List.getElem?_drop] at hi
          split at hi
          · exact hi
          · cases hi
        obtain ⟨hrl, _, hblk⟩ := hH.blk id b hb
        rcases hr.sl_ with ⟨oa, rfl, rfl, rfl⟩ | ⟨cap, g, base, n, e, hι, hsh, hl, hm, hfit, rfl⟩
        · refine build oa 0 0 (fun _ _ => default) (by rw [hlen]) (fun i row hi => hrl _ _ (hat i row hi)) (fun h0 => by rw [hlen] at h0; omega) fun i row j d hi => ?_
          have := (List.getElem?_eq_some_iff.1 hi).1
          rw [hlen] at this
          omega
        · obtain ⟨cur, e', vals, hh, hfit', hcell, hrel⟩ := hblk g base hι
          refine build _ cap 0 (fun i j => vals (off + i) j) (by rw [hlen]) (fun i row hi => hrl _ _ (hat i row hi)) (fun h0 => ⟨_, rfl, rfl, fun i j hi hj => ?_⟩) fun i row j d hi hd => hrel _ row j d (hat i row hi) hd
          rw [hlen] at hi
          have h5 := hcell (off + i) j (by omega) hj
          refine ⟨?_, h5.2⟩
          rw [← h5.1]
          have e1 : base + off * b.s + (i * b.s + j) = base + (off + i) * b.s + j := by rw [Nat.add_mul]; omega
          simp [World.cell?, hh, e1]
      · cases h
    · cases h
  · rename_i s rows'
    split at h
    · simp only [Option.some.injEq, Prod.mk.injEq] at h
      obtain ⟨rfl, rfl⟩ := h
      obtain ⟨oa, cap, vals, rfl, hcap, hone, hrow, hrel⟩ := hr.ro_
      rcases hc with rfl | rfl
      · refine build oa cap 0 vals rfl (fun i row hi => (hrow i row hi).1) (fun h0 => ?_) fun i row j d hi hd => .fr (hrel i row j d hi hd)
        obtain ⟨_, a, rfl, ha, _, _⟩ := hrow 0 rows'[0] (List.getElem?_eq_getElem h0)
        refine ⟨a, rfl, ha, fun i j hi hj => ⟨?_, hone i j hi hj⟩⟩
        obtain ⟨_, a', ha', _, _, hcell⟩ := hrow i rows'[i] (List.getElem?_eq_getElem hi)
        simp only [Option.some.injEq] at ha'
        subst ha'
        rw [← Nat.add_assoc]
        exact hcell j hj
      · exact build oa cap 0 vals rfl (by simp) (by simp) (by simp)
    · cases h
  · simp only [Option.some.injEq, Prod.mk.injEq] at h
    obtain ⟨rfl, rfl⟩ := h
    obtain ⟨oa, rfl⟩ := hr.nils_
    exact build oa 0 0 (fun _ _ => default) rfl (by simp) (by simp) (by simp)
  · cases h

theorem refsR_kill {id : Nat} {rows : List (List AV)} {i : Nat} {row : List AV} (h : (killR id rows)[i]? = some row) : ∃ row0, rows[i]? = some row0 ∧ row = row0.map (kill id) := by
  unfold killR at h
  rw [List.getElem?_map, Option.map_eq_some_iff] at h
  obtain ⟨r0, h1, h2⟩ := h
  exact ⟨r0, h1, h2.symm⟩

/-- A block is laid anew under its number: its place may be another; words of its old place are void. -/
theorem RelL.replace (h : RelL w ι F H) {w' : World} {id : Nat} {x0 : Option Blk} (hid : H[id]? = some x0) {b' : Blk} (ni : Option (Nat × Nat)) (hs : Same F w w')
    (hold : ∀ g, g < w.heap.size → (∀ base, ι id ≠ some (g, base)) → w'.heap[g]? = w.heap[g]?) (hsize : w.heap.size ≤ w'.heap.size) (hos : w'.os = w.os) (htape : w'.tape = w.tape) (hout : w'.output = w.output)
    (hnil : ni = none → b'.rows = []) (hrl : ∀ (i : Nat) (row : List AV), b'.rows[i]? = some row → row.length = b'.s)
    (hni : ∀ g base, ni = some (g, base) → (w.heap.size ≤ g ∨ ∃ base0, ι id = some (g, base0)) ∧ ∃ (cs : Array Value) (e : TypeId) (vals : Nat → Nat → Value), w'.heap[g]? = some (.cells cs e (0, 0)) ∧ base + b'.rows.length * b'.s ≤ cs.size ∧
      (∀ i j, i < b'.rows.length → j < b'.s → cs[base + i * b'.s + j]? = some (vals i j) ∧ (vals i j).oneCell' = true) ∧
      ∀ (i : Nat) (row : List AV) (j : Nat) (c : AV), b'.rows[i]? = some row → row[j]? = some c → VR w ι F c (vals i j)) :
    let ι' : Imap := fun k => if k = id then ni else ι k
    RelL w' ι' F ((killH id H).set id (some ⟨b'.s, killR id b'.rows⟩)) ∧ Ext ι H F w ι' ((killH id H).set id (some ⟨b'.s, killR id b'.rows⟩)) F w' ∧ (∀ c x, VR w ι F c x → VR w' ι' F (kill id c) x) := by
  intro ι'
  have hlen : id < (killH id H).length := by have := (List.getElem?_eq_some_iff.1 hid).1; simpa [killH] using this
  have hvr : ∀ c x, VR w ι F c x → VR w' ι' F (kill id c) x := fun c x hx => ((hx.killed (ι' := ι') (k := id) (fun k hk => if_neg hk))).same hs
  have hat : ∀ {k : Nat} {c : Blk}, ((killH id H).set id (some ⟨b'.s, killR id b'.rows⟩))[k]? = some (some c) → (k = id ∧ c = ⟨b'.s, killR id b'.rows⟩) ∨ (k ≠ id ∧ ι' k = ι k ∧ ∃ c0, H[k]? = some (some c0) ∧ c = ⟨c0.s, killR id c0.rows⟩) := by
    intro k c hk
    by_cases hki : k = id
    · subst hki
      rw [List.getElem?_set_self hlen] at hk
      simp only [Option.some.injEq] at hk
      exact .inl ⟨rfl, hk.symm⟩
    · rw [List.getElem?_set_ne (Ne.symm hki)] at hk
      unfold killH at hk
      rw [List.getElem?_map, Option.map_eq_some_iff] at hk
      obtain ⟨o, ho, h2⟩ := hk
      rw [Option.map_eq_some_iff] at h2
      obtain ⟨c0, rfl, rfl⟩ := h2
      exact .inr ⟨hki, if_neg hki, c0, ho, rfl⟩
  have hsl : ι' id = ni := if_pos rfl
  have hlt : ∀ {k : Nat} {c : Blk} {g x : Nat}, H[k]? = some (some c) → ι k = some (g, x) → g < w.heap.size := by
    intro k c g x hk hx
    obtain ⟨_, _, _, h1, _⟩ := (h.blk k c hk).2.2 g x hx
    exact heap_lt h1
  refine ⟨⟨⟨fun k c hk => ?_, fun k k' c c' g1 x g2 x' hk hk' h1 h2 hne => ?_, fun k c g1 x hk h1 => ?_, fun g hg => Nat.lt_of_lt_of_le (h.fz g hg) hsize⟩, fun k x hx => ?_⟩, ?_, hvr⟩
  · rcases hat hk with ⟨rfl, rfl⟩ | ⟨hki, he, c0, hk0, rfl⟩
    · refine ⟨fun i row hi => ?_, fun h0 => ?_, fun g base hg => ?_⟩
      · obtain ⟨r0, h1, rfl⟩ := refsR_kill hi
        simpa using hrl i r0 h1
      · rw [hsl] at h0
        simp [killR, hnil h0]
      · rw [hsl] at hg
        obtain ⟨_, cs, e, vals, h1, h2, h3, h4⟩ := hni g base hg
        refine ⟨cs, e, vals, h1, by simpa [killR] using h2, fun i j hi hj => h3 i j (by simpa [killR] using hi) hj, fun i row j c hi hc => ?_⟩
        obtain ⟨r0, h5, rfl⟩ := refsR_kill hi
        rw [List.getElem?_map, Option.map_eq_some_iff] at hc
        obtain ⟨c0, h6, rfl⟩ := hc
        exact hvr _ _ (h4 i r0 j c0 h5 h6)
    · obtain ⟨h1, h2, h3⟩ := h.blk k c0 hk0
      refine ⟨fun i row hi => ?_, fun h0 => ?_, fun g base hg => ?_⟩
      · obtain ⟨r0, h4, rfl⟩ := refsR_kill hi
        simpa using h1 i r0 h4
      · rw [he] at h0
        simp [killR, h2 h0]
      · rw [he] at hg
        obtain ⟨cs, e, vals, h4, h5, h6, h7⟩ := h3 g base hg
        refine ⟨cs, e, vals, ?_, by simpa [killR] using h5, fun i j hi hj => h6 i j (by simpa [killR] using hi) hj, fun i row j c hi hc => ?_⟩
        · rw [hold g (heap_lt h4) fun base' hb => ?_]
          · exact h4
          · cases x0 with
            | none =>
              obtain ⟨b, hb'⟩ := h.dom id _ hb
              rw [hid] at hb'
              cases hb'
            | some b => exact h.inj k id c0 b g base g base' hk0 hid hg hb hki rfl
        · obtain ⟨r0, h8, rfl⟩ := refsR_kill hi
          rw [List.getElem?_map, Option.map_eq_some_iff] at hc
          obtain ⟨d, h9, rfl⟩ := hc
          exact hvr _ _ (h7 i r0 j d h8 h9)
  · have other : ∀ {k : Nat} {c0 : Blk} {g x : Nat} {gi xi : Nat}, k ≠ id → H[k]? = some (some c0) → ι k = some (g, x) → ni = some (gi, xi) → g ≠ gi := by
      intro k c0 g x gi xi hki hk hg hn e
      subst e
      rcases (hni g xi hn).1 with h5 | ⟨base0, h5⟩
      · have := hlt hk hg
        omega
      · obtain ⟨b, hb⟩ := h.dom id _ h5
        exact h.inj k id c0 b g x g base0 hk hb hg h5 hki rfl
    rcases hat hk with ⟨hq, _⟩ | ⟨hki, he, c0, hk0, _⟩ <;> rcases hat hk' with ⟨hq', _⟩ | ⟨hki', he', c0', hk0', _⟩
    · exact absurd (hq.trans hq'.symm) hne
    · rw [hq, hsl] at h1
      rw [he'] at h2
      exact (other hki' hk0' h2 h1).symm
    · rw [hq', hsl] at h2
      rw [he] at h1
      exact other hki hk0 h1 h2
    · rw [he] at h1
      rw [he'] at h2
      exact h.inj k k' c0 c0' g1 x g2 x' hk0 hk0' h1 h2 hne
  · rcases hat hk with ⟨hq, _⟩ | ⟨hki, he, c0, hk0, _⟩
    · rw [hq, hsl] at h1
      intro hF
      rcases (hni g1 x h1).1 with h5 | ⟨base0, h5⟩
      · have := h.fz g1 hF
        omega
      · obtain ⟨b, hb⟩ := h.dom id _ h5
        exact h.apart id b g1 base0 hb h5 hF
    · rw [he] at h1
      exact h.apart k c0 g1 x hk0 h1
  · by_cases hki : k = id
    · subst hki; exact ⟨_, by rw [List.getElem?_set_self hlen]⟩
    · have : ι k = some x := by rw [← hx]; exact (if_neg hki).symm
      obtain ⟨c, hc⟩ := h.dom k x this
      exact ⟨⟨c.s, killR id c.rows⟩, by rw [List.getElem?_set_ne (Ne.symm hki)]; simp [killH, hc]⟩
  · refine ⟨hsize, fun g hg hnf => hold g hg fun base hb => ?_, hs.2, hos, htape, hout, fun _ h => h, fun _ h => .inl h, fun g ⟨k, c, x, h1, h2⟩ => ?_⟩
    · obtain ⟨b, hb'⟩ := h.dom id _ hb
      exact hnf ⟨id, b, base, hb', hb⟩
    · rcases hat h1 with ⟨hq, _⟩ | ⟨hki, he, c0, hk0, _⟩
      · rw [hq, hsl] at h2
        rcases (hni g x h2).1 with h5 | ⟨base0, h5⟩
        · exact .inr h5
        · obtain ⟨b, hb⟩ := h.dom id _ h5
          exact .inl ⟨id, b, base0, hb, h5⟩
      · rw [he] at h2
        exact .inl ⟨k, c0, x, hk0, h2⟩
end
end Go.Aw

/- append, copy, clear: sound. -/
set_option linter.unusedVariables false
set_option linter.unusedSimpArgs false
namespace Go.Aw
open Go

section
variable {P : Program} {w : World} {ι : Imap} {F : Nat → Prop} {H : List (Option Blk)} {slot : Nat} {ρ : Operand → Option AV} {r : Operand → Value} {c : Prop} {v : AV}
variable {dst : Option Tmp} {ty : TypeId} {pos : String} {aft : Array Edge} {gd : Option (Nat × Bool)}

theorem RelL.of_heap (h : RelL w ι F H) {w' : World} (he : w'.heap = w.heap) : RelL w' ι F H := by
  have hs : Same F w w' := ⟨fun a _ => by simp [World.cell?, he], fun g x hx => by simpa [World.shape?, he] using hx⟩
  exact ⟨⟨fun id b hb => (h.blk id b hb).same hs fun g base _ => by rw [he], h.inj, h.apart, fun g hg => by rw [he]; exact h.fz g hg⟩, h.dom⟩
theorem MadeB.of_heap {b : Blk} {cs : Array Value} (h : MadeB w ι F b cs) {w' : World} (he : w'.heap = w.heap) : MadeB w' ι F b cs := by
  have hs : Same F w w' := ⟨fun a _ => by simp [World.cell?, he], fun g x hx => by simpa [World.shape?, he] using hx⟩
  obtain ⟨h1, h2, vals, h3, h4⟩ := h
  exact ⟨h1, h2, vals, h3, fun i row j c hi hc => (h4 i row j c hi hc).same hs⟩
theorem RelL.virt (h : RelL w ι F H) {es : Nat} (hs : H[slot]? = some none) : RelL w ι F (H.set slot (some ⟨es, []⟩)) ∧ Ext ι H F w ι (H.set slot (some ⟨es, []⟩)) F w := by
  have hnone : ι slot = none := by
    cases hh : ι slot with
    | none => rfl
    | some x =>
      obtain ⟨b, hb⟩ := h.dom slot x hh
      rw [hs] at hb
      cases hb
  have hlen : slot < H.length := (List.getElem?_eq_some_iff.1 hs).1
  have hat : ∀ {k : Nat} {c : Blk}, (H.set slot (some ⟨es, []⟩))[k]? = some (some c) → (k = slot ∧ c = ⟨es, []⟩) ∨ (k ≠ slot ∧ H[k]? = some (some c)) := by
    intro k c hk
    by_cases hki : k = slot
    · subst hki
      rw [List.getElem?_set_self hlen] at hk
      simp only [Option.some.injEq] at hk
      exact .inl ⟨rfl, hk.symm⟩
    · rw [List.getElem?_set_ne (Ne.symm hki)] at hk
      exact .inr ⟨hki, hk⟩
  refine ⟨⟨⟨fun k c hk => ?_, fun k k' c c' g1 x g2 x' hk hk' h1 h2 hne => ?_, fun k c g1 x hk h1 => ?_, h.fz⟩, fun k x hx => ?_⟩, ⟨Nat.le_refl _, fun _ _ _ => rfl, fun _ _ h => h, rfl, rfl, rfl, fun _ h => h, fun _ h => .inl h, fun g ⟨k, c, x, h1, h2⟩ => ?_⟩⟩
  · rcases hat hk with ⟨rfl, rfl⟩ | ⟨_, hk⟩
    · exact ⟨by simp, fun _ => rfl, fun g base hg => by rw [hnone] at hg; cases hg⟩
    · exact h.blk k c hk
  · rcases hat hk with ⟨hq, _⟩ | ⟨_, hk⟩
    · rw [hq, hnone] at h1; cases h1
    · rcases hat hk' with ⟨hq, _⟩ | ⟨_, hk'⟩
      · rw [hq, hnone] at h2; cases h2
      · exact h.inj k k' c c' g1 x g2 x' hk hk' h1 h2 hne
  · rcases hat hk with ⟨hq, _⟩ | ⟨_, hk⟩
    · rw [hq, hnone] at h1; cases h1
    · exact h.apart k c g1 x hk h1
  · obtain ⟨c, hc⟩ := h.dom k x hx
    exact ⟨c, by rw [List.getElem?_set_ne (by intro e; subst e; rw [hnone] at hx; cases hx)]; exact hc⟩
  · rcases hat h1 with ⟨hq, _⟩ | ⟨_, hk⟩
    · rw [hq, hnone] at h2; cases h2
    · exact .inl ⟨k, c, x, hk, h2⟩

/-- append where there is room. -/
theorem run_app_room {t ty e : TypeId} {i : TypeInfo} (ht : P.underlying t = some (.slice e)) (hi : P.info? e = some i) {oa oa' : Option Addr} {sLen sCap n cp : Nat} {news : List Value} {w' : World}
    (hf : (Builtin.firstCells i.size n (.slice oa' n cp)).run P w = .ok news.toArray w) (hroom : sLen + n ≤ sCap)
    (hst : ∀ a, oa = some a → (storeCells (a.add (sLen * i.size)) news).run P w = .ok () w') (hno : oa = none → w' = w) :
    (Builtin.append_ #[t, t] ty #[.slice oa sLen sCap, .slice oa' n cp]).run P w = .ok (.slice oa (sLen + n) sCap) w' := by
  cases oa with
  | none =>
    rw [hno rfl]
    simp [Builtin.append_, run_underlying ht, run_sizeOf' hi, Builtin.lenOf, hroom, hf]
  | some a =>
    have := hst a rfl
    simp [Builtin.append_, run_underlying ht, run_sizeOf' hi, Builtin.lenOf, hroom, hf, this]
/-- append where a new row is made. -/
theorem run_app_grow {t ty e : TypeId} {i : TypeInfo} {z : Value} (ht : P.underlying t = some (.slice e)) (hi : P.info? e = some i) (hz : i.zero = some z) {oa oa' : Option Addr} {sLen sCap n cp : Nat} {olds news : List Value}
    (hfo : (Builtin.firstCells i.size sLen (.slice oa sLen sCap)).run P w.drew = .ok olds.toArray w.drew)
    (hf : (Builtin.firstCells i.size n (.slice oa' n cp)).run P w.drew = .ok news.toArray w.drew) (hg : sCap < sLen + n) (h63 : sLen + n ≤ 140737488355328) (hfit : (sLen + n) * i.bytes ≤ 140737488355328) :
    (Builtin.append_ #[t, t] ty #[.slice oa sLen sCap, .slice oa' n cp]).run P w =
      .ok (.slice (some ⟨w.heap.size, 0, none⟩) (sLen + n) (grownCap w (sLen + n) sCap e)) (w.drew.alloc (.cells (olds.toArray ++ news.toArray ++ Builtin.zeroCells z.cells (grownCap w (sLen + n) sCap e - (sLen + n))) e)) := by
  have hn : ¬ (sLen + n ≤ sCap) := by omega
  have h63' : ¬ (9223372036854775807 < ((sLen : Int) + (n : Int))) := by omega
  have hfit' := growslice_fits hg hfit
  have h48' : ¬ (281474976710656 < Builtin.nextslicecap (sLen + n) sCap * i.bytes) := by omega
  simp [Builtin.append_, run_underlying ht, run_sizeOf' hi, run_typeInfo' hi, run_zeroValue' hi hz, Builtin.lenOf, hn, h63', h48', Question.forced, hf, hfo, newRow, grownCap]
  congr 2
  apply Array.ext'
  simp [List.append_assoc]

/-- Rows of cells laid one behind the other. -/
theorem rows_append {es : Nat} {b1 b2 : List (List AV)} {l1 l2 : List Value} (h1l : l1.length = b1.length * es) (h2l : l2.length = b2.length * es) (hr1 : ∀ (i : Nat) (row : List AV), b1[i]? = some row → row.length = es) (hr2 : ∀ (i : Nat) (row : List AV), b2[i]? = some row → row.length = es)
    (ho1 : ∀ x ∈ l1, x.oneCell' = true) (ho2 : ∀ x ∈ l2, x.oneCell' = true)
    (h1 : ∀ (i : Nat) (row : List AV) (j : Nat) (d : AV), b1[i]? = some row → row[j]? = some d → ∃ x, l1[i * es + j]? = some x ∧ VR w ι F d x)
    (h2 : ∀ (i : Nat) (row : List AV) (j : Nat) (d : AV), b2[i]? = some row → row[j]? = some d → ∃ x, l2[i * es + j]? = some x ∧ VR w ι F d x) (rest : List Value) :
    MadeB w ι F ⟨es, b1 ++ b2⟩ (l1 ++ l2 ++ rest).toArray := by
  have hlen : (l1 ++ l2).length = (b1 ++ b2).length * es := by simp [h1l, h2l, Nat.add_mul]
  have hrl : ∀ (i : Nat) (row : List AV), (b1 ++ b2)[i]? = some row → row.length = es := by
    intro i row hi
    rw [List.getElem?_append] at hi
    split at hi
    · exact hr1 i row hi
    · exact hr2 _ row hi
  refine ⟨hrl, by simp only [List.size_toArray, List.length_append] at hlen ⊢; omega, fun i j => (l1 ++ l2).getD (i * es + j) default, fun i j hi hj => ?_, fun i row j d hi hd => ?_⟩
  · dsimp only at hi hj ⊢
    have hk : i * es + j < (l1 ++ l2).length := by
      rw [hlen]
      have := mul_sep (s := es) hi
      omega
    have e1 : (l1 ++ l2 ++ rest).toArray[i * es + j]? = some (l1 ++ l2)[i * es + j] := by
      rw [List.getElem?_toArray, List.getElem?_append_left hk, List.getElem?_eq_getElem hk]
    have e2 : (l1 ++ l2).getD (i * es + j) default = (l1 ++ l2)[i * es + j] := by simp [List.getD_eq_getElem?_getD, List.getElem?_eq_getElem hk]
    refine ⟨by rw [e2]; exact e1, ?_⟩
    rw [e2]
    have := List.getElem_mem hk
    rcases List.mem_append.1 this with h3 | h3
    · exact ho1 _ h3
    · exact ho2 _ h3
  · dsimp only at hi ⊢
    have hj : j < es := by rw [← hrl i row hi]; exact (List.getElem?_eq_some_iff.1 hd).1
    rw [List.getElem?_append] at hi
    split at hi
    · rename_i hlt
      obtain ⟨x, hx, hr⟩ := h1 i row j d hi hd
      have hk : i * es + j < l1.length := (List.getElem?_eq_some_iff.1 hx).1
      have : (l1 ++ l2).getD (i * es + j) default = x := by rw [List.getD_eq_getElem?_getD, List.getElem?_append_left hk, hx]; rfl
      rw [this]
      exact hr
    · rename_i hge
      obtain ⟨x, hx, hr⟩ := h2 _ row j d hi hd
      have hsub : i * es = b1.length * es + (i - b1.length) * es := by rw [← Nat.add_mul]; congr 1; omega
      have : (l1 ++ l2).getD (i * es + j) default = x := by
        rw [List.getD_eq_getElem?_getD, List.getElem?_append_right (by omega), show i * es + j - l1.length = (i - b1.length) * es + j by omega, hx]
        rfl
      rw [this]
      exact hr

theorem src_op {es : Nat} {x : Operand} {c' : Prop} {news : List (List AV)} (hρ : Rho w ι F ρ r) (hH : RelL w ι F H) (hsrc : (ρ x).bind (srcRows H es) = some (c', news)) (hc' : c') :
    ∃ (oa : Option Addr) (cap : Nat) (nv : List Value), r x = .slice oa news.length cap ∧ nv.length = news.length * es ∧ (∀ w' : World, (∀ (b : Nat) (x : Obj), w.heap[b]? = some x → w'.heap[b]? = some x) → (Builtin.firstCells es news.length (r x)).run P w' = .ok nv.toArray w') ∧
      (∀ n, n ≤ news.length → ∀ w' : World, (∀ (b : Nat) (x : Obj), w.heap[b]? = some x → w'.heap[b]? = some x) → (Builtin.firstCells es n (r x)).run P w' = .ok (nv.take (n * es)).toArray w') ∧
      (∀ x ∈ nv, x.oneCell' = true) ∧ (∀ (i : Nat) (row : List AV), news[i]? = some row → row.length = es) ∧ ∀ (i : Nat) (row : List AV) (j : Nat) (d : AV), news[i]? = some row → row[j]? = some d → ∃ x, nv[i * es + j]? = some x ∧ VR w ι F d x := by
  rw [Option.bind_eq_some_iff] at hsrc
  obtain ⟨a, ha, hsr⟩ := hsrc
  exact src_sound (P := P) hsr hc' (hρ x a ha) hH

theorem list_two {α : Type} {a : Array α} {x y : α} (h : a.toList = [x, y]) : a = #[x, y] := by obtain ⟨l⟩ := a; simp only at h; rw [h]
theorem list_one {α : Type} {a : Array α} {x : α} (h : a.toList = [x]) : a = #[x] := by obtain ⟨l⟩ := a; simp only at h; rw [h]

theorem w_append {s x : Operand} {t : TypeId} {H' : List (Option Blk)} {k : Option Nat} (hρ : Rho w ι F ρ r) (hH : RelL w ι F H) (hslot : H[slot]? = some none) (h : evWB P ρ H slot .append [s, x] [t, t] = some (c, v, H', k)) (hc : c) :
    Wrt P w ι F H r ⟨dst, .call { callee := .builtin .append, args := #[s, x], argTypes := #[t, t] }, ty, pos, aft, gd⟩ v H' k := by
  simp only [evWB, if_true] at h
  split at h
  · rename_i es by_ z hel
    split at h
    · rename_i hes
      obtain ⟨e, ti, hu, hi, rfl, rfl, hz⟩ := elI_spec hel
      obtain ⟨ti', zv, hi', hzv, hlen, hcrz⟩ := zrI_spec (w := w) (ι := ι) (F := F) hz
      obtain rfl : ti' = ti := by rw [hi] at hi'; exact (Option.some.inj hi').symm
      have hzs : zv.cells.size = ti'.size := by rw [← hcrz.1]; exact hlen
      have exec : ∀ {u : Value} {w' : World}, (Builtin.append_ #[t, t] ty #[r s, r x]).run P w = .ok u w' → (execOp r ⟨dst, .call { callee := .builtin .append, args := #[s, x], argTypes := #[t, t] }, ty, pos, aft, gd⟩).run P w = .ok (.value u) w' := by
        intro u w' hrun
        simp [execOp, resolve, invoke, builtin, hrun]
      split at h
      · rename_i c' news hs hsrc
        simp only [Option.some.injEq, Prod.mk.injEq] at h
        obtain ⟨rfl, rfl, rfl, rfl⟩ := h
        obtain ⟨hc', hc2, hc3⟩ := hc
        obtain ⟨oa', cap', nv, ex, hnl, hfc, _, hone, hrl, hrel⟩ := src_op (P := P) hρ hH hsrc hc'
        obtain ⟨oa, es_⟩ := (hρ s _ hs).nils_
        by_cases hn : news.length = 0
        · obtain rfl : news = [] := List.eq_nil_of_length_eq_zero hn
          have hnv : nv = [] := List.eq_nil_of_length_eq_zero (by simpa using hnl)
          subst hnv
          have hf := hfc w (fun _ _ h => h)
          rw [ex] at hf
          have hrun := run_app_room (P := P) (w := w) (ty := ty) hu hi (oa := oa) (sLen := 0) (sCap := 0) (w' := w) hf (by simp) (fun a _ => by simp [storeCells]) (fun _ => rfl)
          rw [← es_, ← ex] at hrun
          obtain ⟨hR, hE⟩ := hH.virt (es := ti'.size) hslot
          exact ⟨w, ι, _, .inl (exec hrun), .sl0 _ _ _ _, hR, hE, fun c x h => h⟩
        · have hfo : (Builtin.firstCells ti'.size 0 (.slice oa 0 0)).run P w.drew = .ok ([] : List Value).toArray w.drew := by cases oa <;> simp [Builtin.firstCells, loadCells, loadCellsFrom]
          have hf := hfc w.drew (fun _ _ h => h)
          rw [ex] at hf
          have hrun := run_app_grow (P := P) (w := w) (ty := ty) hu hi hzv (oa := oa) (sLen := 0) (sCap := 0) hfo hf (by omega) (by omega) (by simpa using hc2)
          rw [← es_, ← ex] at hrun
          have hR0 := hH.of_heap (w' := w.drew) rfl
          have hge := grownCap_ge w (0 + news.length) 0 e
          have hmb := rows_append (w := w) (ι := ι) (F := F) (es := ti'.size) (b1 := []) (b2 := news) (l1 := []) (l2 := nv) (by simp) hnl (by simp) hrl (by simp) hone (by simp) hrel (Builtin.zeroCells zv.cells (grownCap w (0 + news.length) 0 e - (0 + news.length))).toList
          have hcells : (([] : List Value).toArray ++ nv.toArray ++ Builtin.zeroCells zv.cells (grownCap w (0 + news.length) 0 e - (0 + news.length))) = ([] ++ nv ++ (Builtin.zeroCells zv.cells (grownCap w (0 + news.length) 0 e - (0 + news.length))).toList).toArray := by
            apply Array.ext'
            simp
          rw [hcells] at hrun
          obtain ⟨hR, hE, hS, hold⟩ := hR0.make (e := e) hslot (hmb.of_heap (w' := w.drew) rfl)
          refine ⟨_, _, _, .inl (exec hrun), ?_, hR, ?_, fun c x hx => ?_⟩
          · have := VR.sl (w := w.drew.alloc (.cells ([] ++ nv ++ (Builtin.zeroCells zv.cells (grownCap w (0 + news.length) 0 e - (0 + news.length))).toList).toArray e)) (F := F) (ι := fun id => if id = slot then some (w.heap.size, 0) else ι id) slot ti'.size 0 news.length news.length (grownCap w (0 + news.length) 0 e) w.heap.size 0 _ e (if_pos rfl)
              (shape_of_row (heap_alloc_new w.drew _)) (Nat.le_refl _) ⟨by omega, by omega⟩ (by
                simp only [List.size_toArray, List.length_append, List.length_nil, Array.length_toList, size_zeroCells, hnl]
                simp only [hzs, Nat.zero_add]
                rw [← Nat.add_mul]
                exact Nat.mul_le_mul_right _ (by omega))
            simpa using this
          · exact ⟨hE.size, hE.keep, hE.shape, hE.os, hE.tape, hE.output, hE.mono, hE.newF, hE.newH⟩
          · exact (hx.same (w' := w.drew) ⟨fun _ _ => rfl, fun _ _ h => h⟩).mono (fun _ h => h) hS.1 hS.2 hold
      · rename_i id s' off len m c' news hs hsrc
        split at h
        · rename_i b hb
          split at h
          · rename_i hss
            obtain ⟨hbs, hse⟩ := hss
            subst hse
            simp only [Option.some.injEq, Prod.mk.injEq] at h
            obtain ⟨rfl, rfl, rfl, rfl⟩ := h
            obtain ⟨hc', hoff, hc2, hc3⟩ := hc
            obtain ⟨oa', cap', nv, ex, hnl, hfc, _, hone, hrl, hrel⟩ := src_op (P := P) hρ hH hsrc hc'
            have hown : srcRows H ti'.size (.sl id ti'.size off len m) = some (off + len ≤ b.rows.length, (b.rows.drop off).take len) := by simp [srcRows, hb, hbs]
            obtain ⟨oas, capS, olds, es_, hol, hfo, _, honeo, hrlo, hrelo⟩ := src_sound (P := P) hown hoff (hρ s _ hs) hH
            have hlen0 : ((b.rows.drop off).take len).length = len := by simp; omega
            rw [hlen0] at es_ hol hfo
            obtain ⟨hrlb, hvirt, hblk⟩ := hH.blk id b hb
            have hrl' : ∀ (i : Nat) (row : List AV), ((b.rows.drop off).take len ++ news)[i]? = some row → row.length = ti'.size := by
              intro i row hi
              rw [List.getElem?_append] at hi
              split at hi
              · exact hrlo i row hi
              · exact hrl _ row hi
            have hlen' : ((b.rows.drop off).take len ++ news).length = len + news.length := by rw [List.length_append, hlen0]
            by_cases hroom : len + news.length ≤ capS
            · have hvs := hρ s _ hs
              rw [es_] at hvs
              rcases hvs.sl_ with ⟨oa, rfl, rfl, he⟩ | ⟨cap, g, base, n, et, hι, hsh, hl, hm, hfit, he⟩
              · simp only [Value.slice.injEq] at he
                obtain ⟨rfl, _, rfl⟩ := he
                obtain rfl : news = [] := List.eq_nil_of_length_eq_zero (by omega)
                have hnv : nv = [] := List.eq_nil_of_length_eq_zero (by simpa using hnl)
                subst hnv
                have hf := hfc w (fun _ _ h => h)
                rw [ex] at hf
                have hrun := run_app_room (P := P) (w := w) (ty := ty) hu hi (oa := oas) (sLen := 0) (sCap := 0) (w' := w) hf (by simp) (fun a _ => by simp [storeCells]) (fun _ => rfl)
                rw [← es_, ← ex] at hrun
                have hnil : ((b.rows.drop off).take 0 ++ ([] : List (List AV))) = [] := by simp
                obtain ⟨hR, hE, hK⟩ := hH.replace (w' := w) (b' := ⟨ti'.size, (b.rows.drop off).take 0 ++ []⟩) hb (ι id) ⟨fun _ _ => rfl, fun _ _ h => h⟩ (fun _ _ _ => rfl) (Nat.le_refl _) rfl rfl rfl (fun _ => by simp) (fun i row hi => by simp at hi) (fun g base hg => by
                  obtain ⟨cs, e', vals, h1, h2, h3, h4⟩ := hblk g base hg
                  exact ⟨.inr ⟨base, hg⟩, cs, e', vals, h1, by simp; omega, fun i j hi hj => by simp at hi, fun i row j c hi => by simp at hi⟩)
                exact ⟨w, _, _, .inl (exec hrun), .sl0 _ _ _ _, hR, hE, hK⟩
              · simp only [Value.slice.injEq] at he
                obtain ⟨rfl, _, rfl⟩ := he
                obtain ⟨cur, e', vals, hh, hfitb, hcell, hrelb⟩ := hblk g base hι
                have hn : n = cur.size := by
                  rw [shape_of_row hh] at hsh
                  simp only [Option.some.injEq, Prod.mk.injEq] at hsh
                  exact hsh.2.symm
                subst hn
                have hf := hfc w (fun _ _ h => h)
                rw [ex] at hf
                have hsum : (off + (len + news.length)) * ti'.size ≤ (off + capS) * ti'.size := Nat.mul_le_mul_right _ (by omega)
                have hd1 : (off + (len + news.length)) * ti'.size = off * ti'.size + len * ti'.size + news.length * ti'.size := by rw [Nat.add_mul, Nat.add_mul, Nat.add_assoc]
                have hst := run_storeCells_at P g (base + off * ti'.size + len * ti'.size) e' nv 0 cur w hh (by rw [hnl]; omega) hone
                simp only [Nat.add_zero] at hst
                have hrun := run_app_room (P := P) (w := w) (ty := ty) hu hi (oa := some ⟨g, base + off * ti'.size, none⟩) (sLen := len) (sCap := capS) hf hroom (fun a ha => by
                  simp only [Option.some.injEq] at ha
                  subst ha
                  rw [addr_add _ _ rfl]
                  exact hst) (fun h => by cases h)
                rw [← es_, ← ex] at hrun
                have hFg := hH.apart id b g base hb hι
                have hsz : (cur.toList.take (base + off * ti'.size + len * ti'.size) ++ nv ++ cur.toList.drop (base + off * ti'.size + len * ti'.size + nv.length)).toArray.size = cur.size := by
                  simp only [List.size_toArray, List.length_append, List.length_take, List.length_drop, Array.length_toList]
                  omega
                have hget := fun k => seg_get (cur := cur.toList) (vs := nv) (o := base + off * ti'.size + len * ti'.size) (k := k) (by simp; omega)
                obtain ⟨hR, hE, hK⟩ := hH.replace (b' := ⟨ti'.size, (b.rows.drop off).take len ++ news⟩) hb (some (g, base + off * ti'.size)) (Same.setRow hh hsz hFg) (fun g' _ hg' => setRow_other w g g' _ (fun e => hg' base (by rw [e]; exact hι))) (by simp) rfl rfl rfl (fun h => by cases h) hrl' (fun g' base' hg' => by
                  simp only [Option.some.injEq, Prod.mk.injEq] at hg'
                  obtain ⟨rfl, rfl⟩ := hg'
                  refine ⟨.inr ⟨base, hι⟩, _, e', fun i j => if i < len then vals (off + i) j else nv.getD ((i - len) * ti'.size + j) default, setRow_heap w g cur _ e' _ hh, ?_, fun i j hi hj => ?_, fun i row j d hi hd => ?_⟩
                  · rw [hsz, hlen', Nat.add_assoc, ← Nat.add_mul]
                    omega
                  · rw [hlen'] at hi
                    dsimp only at hj ⊢
                    rw [List.getElem?_toArray, hget]
                    by_cases hil : i < len
                    · have h1 := mul_sep (s := ti'.size) hil
                      have h2 := hcell (off + i) j (by omega) (by rw [hbs]; exact hj)
                      rw [hbs, Nat.add_mul] at h2
                      rw [if_neg (by omega), if_pos hil]
                      refine ⟨?_, h2.2⟩
                      rw [Array.getElem?_toList, ← h2.1]
                      congr 1
                      omega
                    · have h1 : (i - len) * ti'.size + len * ti'.size = i * ti'.size := by rw [← Nat.add_mul]; congr 1; omega
                      have h2 := mul_sep (s := ti'.size) (show i - len < news.length by omega)
                      rw [if_pos (by omega), if_neg hil]
                      have h3 : base + off * ti'.size + i * ti'.size + j - (base + off * ti'.size + len * ti'.size) = (i - len) * ti'.size + j := by omega
                      have h4 : (i - len) * ti'.size + j < nv.length := by omega
                      have h5 : nv.getD ((i - len) * ti'.size + j) default = nv[(i - len) * ti'.size + j] := by simp [List.getD_eq_getElem?_getD, List.getElem?_eq_getElem h4]
                      rw [h3, h5]
                      exact ⟨List.getElem?_eq_getElem h4, hone _ (List.getElem_mem h4)⟩
                  · dsimp only at hi ⊢
                    rw [List.getElem?_append, hlen0] at hi
                    split at hi
                    · rename_i hil
                      rw [if_pos hil]
                      rw [List.getElem?_take, if_pos hil, List.getElem?_drop] at hi
                      exact hrelb _ row j d hi hd
                    · rename_i hil
                      rw [if_neg hil]
                      obtain ⟨x, hx, hr⟩ := hrel _ row j d hi hd
                      simpa [List.getD_eq_getElem?_getD, hx] using hr)
                refine ⟨_, _, _, .inl (exec hrun), ?_, hR, hE, hK⟩
                have := VR.sl (w := w.setRow g (cur.toList.take (base + off * ti'.size + len * ti'.size) ++ nv ++ cur.toList.drop (base + off * ti'.size + len * ti'.size + nv.length)).toArray) (F := F) (ι := fun k => if k = id then some (g, base + off * ti'.size) else ι k) id ti'.size 0 (len + news.length) (len + news.length) capS g (base + off * ti'.size) _ e' (if_pos rfl) (shape_of_row (setRow_heap w g cur _ e' _ hh)) (Nat.le_refl _) ⟨hroom, hc3⟩ (by
                  rw [hsz, Nat.zero_add, Nat.add_assoc, ← Nat.add_mul]
                  exact hfit)
                simpa using this
            · have hfo' := hfo w.drew (fun _ _ h => h)
              rw [es_] at hfo'
              have hf := hfc w.drew (fun _ _ h => h)
              rw [ex] at hf
              have hrun := run_app_grow (P := P) (w := w) (ty := ty) hu hi hzv (oa := oas) (sLen := len) (sCap := capS) hfo' hf (by omega) hc3 hc2
              rw [← es_, ← ex] at hrun
              have hge := grownCap_ge w (len + news.length) capS e
              have hmb := rows_append (w := w) (ι := ι) (F := F) (es := ti'.size) (b1 := (b.rows.drop off).take len) (b2 := news) (l1 := olds) (l2 := nv) (by rw [hlen0]; exact hol) hnl hrlo hrl honeo hone hrelo hrel (Builtin.zeroCells zv.cells (grownCap w (len + news.length) capS e - (len + news.length))).toList
              have hcells : (olds.toArray ++ nv.toArray ++ Builtin.zeroCells zv.cells (grownCap w (len + news.length) capS e - (len + news.length))) = (olds ++ nv ++ (Builtin.zeroCells zv.cells (grownCap w (len + news.length) capS e - (len + news.length))).toList).toArray := by
                apply Array.ext'
                simp
              rw [hcells] at hrun
              have hS : Same F w (w.drew.alloc (.cells (olds ++ nv ++ (Builtin.zeroCells zv.cells (grownCap w (len + news.length) capS e - (len + news.length))).toList).toArray e)) := Same.alloc (w := w.drew) _ hH.fz
              obtain ⟨hR, hE, hK⟩ := hH.replace (b' := ⟨ti'.size, (b.rows.drop off).take len ++ news⟩) hb (some (w.heap.size, 0)) hS (fun g' hg' _ => heap_alloc_old w.drew _ hg') (by simp) rfl rfl rfl (fun h => by cases h) hrl' (fun g' base' hg' => by
                simp only [Option.some.injEq, Prod.mk.injEq] at hg'
                obtain ⟨rfl, rfl⟩ := hg'
                obtain ⟨_, h2, vals, h3, h4⟩ := hmb
                exact ⟨.inl (Nat.le_refl _), _, e, vals, heap_alloc_new w.drew _, by rw [Nat.zero_add]; exact h2, fun i j hi hj => by rw [Nat.zero_add]; exact h3 i j hi hj, h4⟩)
              refine ⟨_, _, _, .inl (exec hrun), ?_, hR, hE, hK⟩
              have := VR.sl (w := w.drew.alloc (.cells (olds ++ nv ++ (Builtin.zeroCells zv.cells (grownCap w (len + news.length) capS e - (len + news.length))).toList).toArray e)) (F := F) (ι := fun k => if k = id then some (w.heap.size, 0) else ι k) id ti'.size 0 (len + news.length) (len + news.length) (grownCap w (len + news.length) capS e) w.heap.size 0 _ e (if_pos rfl)
                (shape_of_row (heap_alloc_new w.drew _)) (Nat.le_refl _) ⟨hge, hc3⟩ (by
                  simp only [List.size_toArray, List.length_append, Array.length_toList, size_zeroCells, hnl, hol]
                  rw [hzs, Nat.zero_add, Nat.zero_add, ← Nat.add_mul, ← Nat.add_mul]
                  exact Nat.mul_le_mul_right _ (by omega))
              simpa using this
          · cases h
        · cases h
      · simp at h
    · simp at h
  · simp at h

/-- A block's rows from one place on are written over by rows. -/
theorem rows_over {b : Blk} {es off base : Nat} {cur : Array Value} {news : List (List AV)} {nv : List Value} {vals : Nat → Nat → Value} (hbs : b.s = es) (hoff : off + news.length ≤ b.rows.length) (hfit : base + b.rows.length * es ≤ cur.size)
    (hcell : ∀ i j, i < b.rows.length → j < b.s → cur[base + i * b.s + j]? = some (vals i j) ∧ (vals i j).oneCell' = true)
    (hrelb : ∀ (i : Nat) (row : List AV) (j : Nat) (c : AV), b.rows[i]? = some row → row[j]? = some c → VR w ι F c (vals i j)) (hrlb : ∀ (i : Nat) (row : List AV), b.rows[i]? = some row → row.length = b.s)
    (hnl : nv.length = news.length * es) (hone : ∀ x ∈ nv, x.oneCell' = true) (hrl : ∀ (i : Nat) (row : List AV), news[i]? = some row → row.length = es)
    (hrel : ∀ (i : Nat) (row : List AV) (j : Nat) (d : AV), news[i]? = some row → row[j]? = some d → ∃ x, nv[i * es + j]? = some x ∧ VR w ι F d x) :
    let b' : Blk := ⟨es, b.rows.take off ++ news ++ b.rows.drop (off + news.length)⟩
    (∀ (i : Nat) (row : List AV), b'.rows[i]? = some row → row.length = b'.s) ∧ base + b'.rows.length * b'.s ≤ (cur.toList.take (base + off * es) ++ nv ++ cur.toList.drop (base + off * es + nv.length)).toArray.size ∧ ∃ vals : Nat → Nat → Value,
      (∀ i j, i < b'.rows.length → j < b'.s → (cur.toList.take (base + off * es) ++ nv ++ cur.toList.drop (base + off * es + nv.length)).toArray[base + i * b'.s + j]? = some (vals i j) ∧ (vals i j).oneCell' = true) ∧
      ∀ (i : Nat) (row : List AV) (j : Nat) (c : AV), b'.rows[i]? = some row → row[j]? = some c → VR w ι F c (vals i j) := by
  intro b'
  subst hbs
  have hlen : b'.rows.length = b.rows.length := by simp [b']; omega
  have hget : ∀ i : Nat, b'.rows[i]? = if off ≤ i ∧ i < off + news.length then news[i - off]? else b.rows[i]? := by
    intro i
    have h1 : (b.rows.take off).length = off := by simp; omega
    show (b.rows.take off ++ news ++ b.rows.drop (off + news.length))[i]? = _
    rw [List.append_assoc, List.getElem?_append, h1]
    split
    · rw [if_neg (by omega), List.getElem?_take, if_pos (by omega)]
    · rw [List.getElem?_append]
      split
      · rw [if_pos (by omega)]
      · rw [if_neg (by omega), List.getElem?_drop]
        congr 1
        omega
  have hd : (off + news.length) * b.s = off * b.s + news.length * b.s := Nat.add_mul ..
  have hle : (off + news.length) * b.s ≤ b.rows.length * b.s := Nat.mul_le_mul_right _ hoff
  refine block_seg (b := b) (b' := b') (o := base + off * b.s) hfit rfl hlen hcell hrelb (fun i row hi => ?_) (by omega) hone fun i row j c hi hc hj => ?_
  · rw [hget] at hi
    split at hi
    · exact hrl _ row hi
    · exact hrlb i row hi
  · rw [hget] at hi
    split at hi
    · rename_i hin
      have h1 : (i - off) * b.s + off * b.s = i * b.s := by rw [← Nat.add_mul]; congr 1; omega
      have h2 := mul_sep (s := b.s) (show i - off < news.length by omega)
      rw [if_pos (by omega)]
      obtain ⟨x, hx, hr⟩ := hrel _ row j c hi hc
      exact ⟨x, by rw [← hx]; congr 1; omega, hr⟩
    · rename_i hin
      rw [if_neg (by
        by_cases h3 : i < off
        · have := mul_sep (s := b.s) h3
          omega
        · have h4 : off + news.length ≤ i := by omega
          have := Nat.mul_le_mul_right b.s h4
          omega)]
      exact ⟨row, hi, hc⟩

theorem w_copy {d x : Operand} {t t' : TypeId} {H' : List (Option Blk)} {k : Option Nat} (hρ : Rho w ι F ρ r) (hH : RelL w ι F H) (h : evWB P ρ H slot .copy [d, x] [t, t'] = some (c, v, H', k)) (hc : c) :
    Wrt P w ι F H r ⟨dst, .call { callee := .builtin .copy, args := #[d, x], argTypes := #[t, t'] }, ty, pos, aft, gd⟩ v H' k := by
  simp only [evWB] at h
  split at h
  · rename_i es by_ z hel
    split at h
    · rename_i hes
      split at h
      · rename_i id s' off len m c' news hs hsrc
        split at h
        · rename_i b hb
          split at h
          · rename_i hss
            obtain ⟨hbs, hse⟩ := hss
            subst hse
            simp only [Option.some.injEq, Prod.mk.injEq] at h
            obtain ⟨rfl, rfl, rfl, rfl⟩ := h
            obtain ⟨hc', hoff⟩ := hc
            obtain ⟨e, ti, hu, hi, htis, _, _⟩ := elI_spec hel
            subst htis
            obtain ⟨oa', cap', nv, ex, hnl, _, hfc, hone, hrl, hrel⟩ := src_op (P := P) hρ hH hsrc hc'
            obtain ⟨hrlb, hvirt, hblk⟩ := hH.blk id b hb
            have hmin : Nat.min news.length len ≤ news.length := Nat.min_le_left _ _
            have hf := hfc (Nat.min news.length len) hmin w (fun _ _ h => h)
            rw [ex] at hf
            have exec : ∀ {u : Value} {w' : World}, (Builtin.copy_ #[t, t'] ty #[r d, r x]).run P w = .ok u w' → (execOp r ⟨dst, .call { callee := .builtin .copy, args := #[d, x], argTypes := #[t, t'] }, ty, pos, aft, gd⟩).run P w = .ok (.value u) w' := by
              intro u w' hrun
              simp [execOp, resolve, invoke, builtin, hrun]
            have htl : (nv.take (Nat.min news.length len * ti.size)).length = (news.take (Nat.min news.length len)).length * ti.size := by
              have := Nat.mul_le_mul_right ti.size hmin
              rw [List.length_take, List.length_take, hnl, Nat.min_eq_left this, Nat.min_eq_left hmin]
            rcases (hρ d _ hs).sl_ with ⟨oa, rfl, rfl, he⟩ | ⟨cap, g, base, n, et, hι, hsh, hl, hm, hfit, he⟩
            · have h0 : Nat.min news.length 0 = 0 := Nat.min_eq_right (Nat.zero_le _)
              rw [h0] at hf ⊢
              have hrows : b.rows.take off ++ news.take 0 ++ b.rows.drop (off + 0) = b.rows := by simp
              rw [hrows]
              have hb' : H.set id (some ⟨ti.size, b.rows⟩) = H := by
                have : (⟨ti.size, b.rows⟩ : Blk) = b := by cases b; simp at hbs; subst hbs; rfl
                rw [this]
                apply List.ext_getElem?
                intro k
                by_cases hk : k = id
                · subst hk
                  rw [List.getElem?_set_self (List.getElem?_eq_some_iff.1 hb).1, hb]
                · rw [List.getElem?_set_ne (Ne.symm hk)]
              rw [hb']
              refine ⟨w, ι, goInt 0, .inl (exec ?_), .int _ _, hH, Ext.refl _ _ _ _, fun _ _ h => h⟩
              rw [he, ex]
              cases oa <;> simp [Builtin.copy_, run_underlying hu, Builtin.lenOf, run_sizeOf' hi, h0, hf, storeCells]
            · obtain ⟨cur, e', vals, hh, hfitb, hcell, hrelb⟩ := hblk g base hι
              have hlt : (news.take (Nat.min news.length len)).length = Nat.min news.length len := by rw [List.length_take, Nat.min_eq_left hmin]
              have hml : Nat.min news.length len ≤ len := Nat.min_le_right _ _
              have hseg := rows_over (w := w) (ι := ι) (F := F) (b := b) (es := ti.size) (off := off) (base := base) (cur := cur) (news := news.take (Nat.min news.length len)) (nv := nv.take (Nat.min news.length len * ti.size)) hbs (by omega) (by rw [← hbs]; exact hfitb) hcell hrelb hrlb htl
                (fun x hx => hone x (List.mem_of_mem_take hx)) (fun i row hi => by
                  rw [List.getElem?_take] at hi
                  split at hi
                  · exact hrl i row hi
                  · cases hi) (fun i row j d hi hd => by
                  rw [List.getElem?_take] at hi
                  split at hi
                  · rename_i him
                    obtain ⟨x, hx, hr⟩ := hrel i row j d hi hd
                    have := mul_sep (s := ti.size) him
                    have hj : j < ti.size := by rw [← hrl i row hi]; exact (List.getElem?_eq_some_iff.1 hd).1
                    exact ⟨x, by rw [List.getElem?_take, if_pos (by omega)]; exact hx, hr⟩
                  · cases hi)
              rw [hlt] at hseg htl
              have hle : (off + Nat.min news.length len) * ti.size ≤ b.rows.length * ti.size := Nat.mul_le_mul_right _ (by omega)
              rw [Nat.add_mul] at hle
              rw [hbs] at hfitb
              have hst := run_storeCells_at P g (base + off * ti.size) e' (nv.take (Nat.min news.length len * ti.size)) 0 cur w hh (by rw [htl]; omega) (fun x hx => hone x (List.mem_of_mem_take hx))
              simp only [Nat.add_zero] at hst
              have hsz : (cur.toList.take (base + off * ti.size) ++ nv.take (Nat.min news.length len * ti.size) ++ cur.toList.drop (base + off * ti.size + (nv.take (Nat.min news.length len * ti.size)).length)).toArray.size = cur.size := by
                simp only [List.size_toArray, List.length_append, List.length_take, List.length_drop, Array.length_toList]
                rw [List.length_take] at htl
                omega
              obtain ⟨hR, hE, hS⟩ := hH.write hb hι hh hsz hseg
              refine ⟨_, ι, goInt (Nat.min news.length len), .inl (exec ?_), .int _ _, hR, hE, fun c y hy => hy.same hS⟩
              rw [he, ex]
              simp [Builtin.copy_, run_underlying hu, Builtin.lenOf, run_sizeOf' hi, hf, hst]
          · cases h
        · cases h
      · cases h
    · cases h
  · cases h

theorem rep_rel {z : List AV} {zv : Array Value} {n : Nat} (hz : CR w ι F z zv) (h0 : 0 < z.length) : (∀ (i : Nat) (row : List AV), (List.replicate n z)[i]? = some row → row.length = z.length) ∧
    (Builtin.zeroCells zv n).toList.length = (List.replicate n z).length * z.length ∧ (∀ x ∈ (Builtin.zeroCells zv n).toList, x.oneCell' = true) ∧
    ∀ (i : Nat) (row : List AV) (j : Nat) (d : AV), (List.replicate n z)[i]? = some row → row[j]? = some d → ∃ x, (Builtin.zeroCells zv n).toList[i * z.length + j]? = some x ∧ VR w ι F d x := by
  have hat : ∀ (i : Nat) (row : List AV), (List.replicate n z)[i]? = some row → i < n ∧ row = z := by
    intro i row hi
    rw [List.getElem?_replicate] at hi
    split at hi
    · simp only [Option.some.injEq] at hi; exact ⟨by assumption, hi.symm⟩
    · cases hi
  have hel : ∀ k, k < n * z.length → (Builtin.zeroCells zv n).toList[k]? = zv[k % z.length]? := by
    intro k hk
    have hlt : k % z.length < zv.size := by rw [← hz.1]; exact Nat.mod_lt _ h0
    have hk' : k < n * zv.size := by rw [← hz.1]; exact hk
    have hlt' : k % zv.size < zv.size := by rw [← hz.1] at hlt ⊢; exact hlt
    simp [Builtin.zeroCells, hk', hz.1, hlt']
  refine ⟨fun i row hi => by rw [(hat i row hi).2], by simp [size_zeroCells, hz.1], fun x hx => ?_, fun i row j d hi hd => ?_⟩
  · obtain ⟨k, hk, rfl⟩ := List.mem_iff_getElem.1 hx
    have hk' : k < n * z.length := by rw [Array.length_toList, size_zeroCells, ← hz.1] at hk; exact hk
    have h1 := hel k hk'
    rw [List.getElem?_eq_getElem hk] at h1
    have hkl : k % z.length < z.length := Nat.mod_lt _ h0
    obtain ⟨x, hx, h2, _⟩ := hz.2 (k % z.length) z[k % z.length] (List.getElem?_eq_getElem hkl)
    rw [hx] at h1
    simp only [Option.some.injEq] at h1
    rw [h1]
    exact h2
  · obtain ⟨hin, rfl⟩ := hat i row hi
    have hj : j < row.length := (List.getElem?_eq_some_iff.1 hd).1
    have := mul_sep (s := row.length) hin
    obtain ⟨x, hx, _, hr⟩ := hz.2 j d hd
    refine ⟨x, ?_, hr⟩
    rw [hel _ (by omega), Nat.mul_comm, Nat.mul_add_mod, Nat.mod_eq_of_lt hj]
    exact hx

theorem w_clear {d : Operand} {t : TypeId} {H' : List (Option Blk)} {k : Option Nat} (hρ : Rho w ι F ρ r) (hH : RelL w ι F H) (h : evWB P ρ H slot .clear [d] [t] = some (c, v, H', k)) (hc : c) :
    Wrt P w ι F H r ⟨dst, .call { callee := .builtin .clear, args := #[d], argTypes := #[t] }, ty, pos, aft, gd⟩ v H' k := by
  simp only [evWB] at h
  split at h
  · rename_i es by_ z hel
    split at h
    · rename_i hes
      obtain ⟨e, ti, hu, hi, htis, _, hz⟩ := elI_spec hel
      subst htis
      obtain ⟨ti', zv, hi', hzv, hlen, hcrz⟩ := zrI_spec (w := w) (ι := ι) (F := F) hz
      obtain rfl : ti' = ti := by rw [hi] at hi'; exact (Option.some.inj hi').symm
      have exec : ∀ {u : Value} {w' : World}, (Builtin.clear_ #[t] ty #[r d]).run P w = .ok u w' → (execOp r ⟨dst, .call { callee := .builtin .clear, args := #[d], argTypes := #[t] }, ty, pos, aft, gd⟩).run P w = .ok (.value u) w' := by
        intro u w' hrun
        simp [execOp, resolve, invoke, builtin, hrun]
      split at h
      · rename_i id s' off len m hs
        split at h
        · rename_i b hb
          split at h
          · rename_i hss
            obtain ⟨hbs, hse⟩ := hss
            subst hse
            simp only [Option.some.injEq, Prod.mk.injEq] at h
            obtain ⟨rfl, rfl, rfl, rfl⟩ := h
            obtain ⟨hrlb, hvirt, hblk⟩ := hH.blk id b hb
            have same : len = 0 → H.set id (some ⟨ti'.size, b.rows.take off ++ List.replicate len z ++ b.rows.drop (off + len)⟩) = H := by
              intro h0
              subst h0
              have hrows : b.rows.take off ++ List.replicate 0 z ++ b.rows.drop (off + 0) = b.rows := by simp
              rw [hrows]
              have : (⟨ti'.size, b.rows⟩ : Blk) = b := by cases b; simp at hbs; subst hbs; rfl
              rw [this]
              apply List.ext_getElem?
              intro k
              by_cases hk : k = id
              · subst hk
                rw [List.getElem?_set_self (List.getElem?_eq_some_iff.1 hb).1, hb]
              · rw [List.getElem?_set_ne (Ne.symm hk)]
            rcases (hρ d _ hs).sl_ with ⟨oa, rfl, rfl, he⟩ | ⟨cap, g, base, n, et, hι, hsh, hl, hm, hfit, he⟩
            · rw [same rfl]
              refine ⟨w, ι, .tuple #[], .inl (exec ?_), .mk_tup rfl (by simp), hH, Ext.refl _ _ _ _, fun _ _ h => h⟩
              rw [he]
              cases oa <;> simp [Builtin.clear_, run_underlying hu]
            · by_cases h0 : len = 0
              · rw [same h0]
                subst h0
                refine ⟨w, ι, .tuple #[], .inl (exec ?_), .mk_tup rfl (by simp), hH, Ext.refl _ _ _ _, fun _ _ h => h⟩
                rw [he]
                simp [Builtin.clear_, run_underlying hu]
              · obtain ⟨cur, e', vals, hh, hfitb, hcell, hrelb⟩ := hblk g base hι
                rw [hbs] at hfitb
                obtain ⟨q1, q2, q3, q4⟩ := rep_rel (n := len) hcrz (by omega)
                rw [hlen] at q1 q2 q4
                have hseg := rows_over (w := w) (ι := ι) (F := F) (b := b) (es := ti'.size) (off := off) (base := base) (cur := cur) (news := List.replicate len z) (nv := (Builtin.zeroCells zv.cells len).toList) hbs (by simpa using hc) hfitb hcell hrelb hrlb q2 q3 q1 q4
                simp only [List.length_replicate] at hseg q2
                have hle : (off + len) * ti'.size ≤ b.rows.length * ti'.size := Nat.mul_le_mul_right _ hc
                rw [Nat.add_mul] at hle
                have hst := run_storeCells_at P g (base + off * ti'.size) e' (Builtin.zeroCells zv.cells len).toList 0 cur w hh (by omega) q3
                simp only [Nat.add_zero] at hst
                have hsz : (cur.toList.take (base + off * ti'.size) ++ (Builtin.zeroCells zv.cells len).toList ++ cur.toList.drop (base + off * ti'.size + (Builtin.zeroCells zv.cells len).toList.length)).toArray.size = cur.size := by
                  simp only [List.size_toArray, List.length_append, List.length_take, List.length_drop, Array.length_toList] at q2 ⊢
                  omega
                obtain ⟨hR, hE, hS⟩ := hH.write (b' := ⟨ti'.size, b.rows.take off ++ List.replicate len z ++ b.rows.drop (off + len)⟩) hb hι hh hsz hseg
                refine ⟨_, ι, .tuple #[], .inl (exec ?_), .mk_tup rfl (by simp), hR, hE, fun c y hy => hy.same hS⟩
                rw [he]
                obtain ⟨l, rfl⟩ : ∃ l, len = l + 1 := ⟨len - 1, by omega⟩
                simp [Builtin.clear_, run_underlying hu, run_zeroValue' hi hzv, hst]
          · cases h
        · cases h
      · rename_i hs
        simp only [Option.some.injEq, Prod.mk.injEq] at h
        obtain ⟨_, rfl, rfl, rfl⟩ := h
        obtain ⟨oa, he⟩ := (hρ d _ hs).nils_
        refine ⟨w, ι, .tuple #[], .inl (exec ?_), .mk_tup rfl (by simp), hH, Ext.refl _ _ _ _, fun _ _ h => h⟩
        rw [he]
        cases oa <;> simp [Builtin.clear_, run_underlying hu]
      · cases h
    · cases h
  · cases h

theorem w_builtin {b : Builtin} {args : Array Operand} {ts : Array TypeId} {H' : List (Option Blk)} {k : Option Nat} (hρ : Rho w ι F ρ r) (hH : RelL w ι F H) (hslot : b = .append → H[slot]? = some none) (h : evWB P ρ H slot b args.toList ts.toList = some (c, v, H', k)) (hc : c) :
    Wrt P w ι F H r ⟨dst, .call { callee := .builtin b, args := args, argTypes := ts }, ty, pos, aft, gd⟩ v H' k := by
  obtain ⟨args⟩ := args
  obtain ⟨ts⟩ := ts
  simp only at h
  have h0 := h
  unfold evWB at h
  split at h
  · rename_i s x t t'
    by_cases htt : t = t'
    · subst htt
      exact w_append hρ hH (hslot rfl) h0 hc
    · rw [if_neg htt] at h
      cases h
  · exact w_copy hρ hH h0 hc
  · exact w_clear hρ hH h0 hc
  · cases h
end
end Go.Aw

/- One abstract step of a region, and that it is sound. -/
set_option linter.unusedVariables false
set_option linter.unusedSimpArgs false
namespace Go.Aw
open Go

/-- Nothing that was there has changed. -/
structure Kept (w w' : World) : Prop where
  size : w.heap.size ≤ w'.heap.size
  keep : ∀ g, g < w.heap.size → w'.heap[g]? = w.heap[g]?
  os : w'.os = w.os
  tape : w'.tape = w.tape
  output : w'.output = w.output

def Callable (P : Program) (f : FuncId) : Prop := ∃ fn, P.funcs[f]? = some fn ∧ (fn.name == "runtime.NumGoroutine") = false ∧ fn.body.isNone = false

def FRL (w : World) (F : Nat → Prop) (cs : List AV) (us : Array Value) : Prop := cs.length = us.size ∧ ∀ (j : Nat) (c : AV), cs[j]? = some c → ∃ x, us[j]? = some x ∧ FR w F c x
def VRL (w : World) (ι : Imap) (F : Nat → Prop) (cs : List AV) (us : Array Value) : Prop := cs.length = us.size ∧ ∀ (j : Nat) (c : AV), cs[j]? = some c → ∃ x, us[j]? = some x ∧ VR w ι F c x

/-- A call that leaves all as it was: of frozen arguments it answers r, in memory that is new or that came in. -/
def PCall (P : Program) (G : Glob) (f : FuncId) (args : List AV) (r : AV) : Prop :=
  Callable P f ∧ ∀ (F : Nat → Prop) (w : World) (us : Array Value), (∀ g, F g → g < w.heap.size) → RelG G w F → FRL w F args us →
    Calls P f us w fun e w' => ∃ v, e = .returned v ∧ FR w' (fun g => F g ∨ (w.heap.size ≤ g ∧ g < w'.heap.size)) r v ∧ Kept w w'

def killK (K : List Nat) (c : AV) : AV := if (refs c).any (K.contains ·) then .junk else c
def killKT (K : List Nat) (T : Nat → Option AV) : Nat → Option AV := fun t => (T t).map (killK K)

/-- A call over the call's own memory. -/
def ECall (P : Program) (G : Glob) (f : FuncId) (args : List AV) (H : List (Option Blk)) (r : AV) (H' : List (Option Blk)) (K : List Nat) : Prop :=
  Callable P f ∧ ∀ (ι : Imap) (F : Nat → Prop) (w : World) (us : Array Value), RelL w ι F H → RelG G w F → VRL w ι F args us →
    Calls P f us w fun e w' => ∃ v ι' F', e = .returned v ∧ VR w' ι' F' r v ∧ RelL w' ι' F' H' ∧ Ext ι H F w ι' H' F' w' ∧ ∀ c x, VR w ι F c x → VR w' ι' F' (killK K c) x

/-- What the call's own memory reads as, for one who only reads. -/
inductive View (H : List (Option Blk)) : AV → AV → Prop
  | frz (c : AV) (h : refs c = []) : View H c c
  | nilro (s : Nat) : View H .nils (.ro s [])
  | sl (id s off len m : Nat) (b : Blk) (rows : List (List AV)) (hb : H[id]? = some (some b)) (hs : b.s = s) (hl : off + len ≤ b.rows.length) (hrl : rows.length = len) (hrow : ∀ (i : Nat) (row row' : List AV), b.rows[off + i]? = some row → rows[i]? = some row' → row'.length = row.length)
      (h : ∀ (i : Nat) (row row' : List AV) (j : Nat) (c c' : AV), b.rows[off + i]? = some row → rows[i]? = some row' → row[j]? = some c → row'[j]? = some c' → View H c c') : View H (.sl id s off len m) (.ro s rows)
  | ptr (id s i j : Nat) (b : Blk) (row cells : List AV) (hb : H[id]? = some (some b)) (hs : b.s = s) (hr : b.rows[i]? = some row) (hl : cells.length + j ≤ row.length)
      (h : ∀ (k : Nat) (c c' : AV), row[j + k]? = some c → cells[k]? = some c' → View H c c') : View H (.ptr id s i j) (.rptr cells)
  | agg (cs cs' : List AV) (hl : cs'.length = cs.length) (h : ∀ (j : Nat) (c c' : AV), cs[j]? = some c → cs'[j]? = some c' → View H c c') : View H (.agg cs) (.agg cs')
  | tup (cs cs' : List AV) (hl : cs'.length = cs.length) (h : ∀ (j : Nat) (c c' : AV), cs[j]? = some c → cs'[j]? = some c' → View H c c') : View H (.tup cs) (.tup cs')
  | fn (f : FuncId) (cs cs' : List AV) (hl : cs'.length = cs.length) (h : ∀ (j : Nat) (c c' : AV), cs[j]? = some c → cs'[j]? = some c' → View H c c') : View H (.fn f cs) (.fn f cs')
def ViewL (H : List (Option Blk)) : List AV → List AV → Prop
  | [], [] => True
  | c :: cs, c' :: cs' => View H c c' ∧ ViewL H cs cs'
  | _, _ => False

mutual
/-- Values without memory. -/
def plainR : AV → Bool
  | .bool _ | .int _ _ | .float _ _ | .str _ | .nils | .nilp => true
  | .agg cs => plainRL cs
  | .tup cs => plainRL cs
  | _ => false
def plainRL : List AV → Bool
  | [] => true
  | c :: cs => plainR c && plainRL cs
end
theorem plainRL_get {cs : List AV} (h : plainRL cs = true) {j : Nat} {c : AV} (hc : cs[j]? = some c) : plainR c = true := by
  induction cs generalizing j with
  | nil => simp at hc
  | cons a cs ih =>
    simp only [plainRL, Bool.and_eq_true] at h
    cases j with
    | zero => simp at hc; subst hc; exact h.1
    | succ j => exact ih h.2 (by simpa using hc)
theorem FR.plain {w w' : World} {F F' : Nat → Prop} {c : AV} {v : Value} (h : FR w F c v) : plainR c = true → FR w' F' c v := by
  induction h with
  | bool b => exact fun _ => .bool b
  | int k n => exact fun _ => .int k n
  | float k n => exact fun _ => .float k n
  | str s => exact fun _ => .str s
  | nils oa => exact fun _ => .nils oa
  | nilp => exact fun _ => .nilp
  | agg cs vs hl vals hv hone hrel ih => exact fun h => .agg cs vs hl vals hv hone fun j c hc => ih j c hc (plainRL_get (by simpa [plainR] using h) hc)
  | tup cs vs hl vals hv hrel ih => exact fun h => .tup cs vs hl vals hv fun j c hc => ih j c hc (plainRL_get (by simpa [plainR] using h) hc)
  | ro => exact fun h => by simp [plainR] at h
  | rptr => exact fun h => by simp [plainR] at h
  | fn => exact fun h => by simp [plainR] at h
  | junk => exact fun h => by simp [plainR] at h

theorem refsL_nil {cs : List AV} (h : refsL cs = []) {j : Nat} {c : AV} (hc : cs[j]? = some c) : refs c = [] := by
  cases hr : refs c with
  | nil => rfl
  | cons a l =>
    have := refsL_mem hc (id := a) (by simp [hr])
    rw [h] at this
    cases this

theorem VR.frozen {w : World} {ι : Imap} {F : Nat → Prop} {c : AV} {v : Value} (h : VR w ι F c v) : refs c = [] → FR w F c v := by
  induction h with
  | fr h => exact fun _ => h
  | sl0 id s off oa => exact fun h => by simp [refs] at h
  | sl id s off len m cap g base n e hι hsh hlen hm hfit => exact fun h => by simp [refs] at h
  | ptr id s i j g base hι => exact fun h => by simp [refs] at h
  | fn f cap vs hl vals hv hrel ih => exact fun h => .fn f cap vs hl vals hv fun j c hc => ih j c hc (refsL_nil (by simpa [refs] using h) hc)
  | agg cs vs hl vals hv hone hrel ih => exact fun h => .agg cs vs hl vals hv hone fun j c hc => ih j c hc (refsL_nil (by simpa [refs] using h) hc)
  | tup cs vs hl vals hv hrel ih => exact fun h => .tup cs vs hl vals hv fun j c hc => ih j c hc (refsL_nil (by simpa [refs] using h) hc)

theorem get_len {α β : Type} {l : List α} {l' : List β} (h : l'.length = l.length) {j : Nat} {x : β} (hx : l'[j]? = some x) : ∃ y, l[j]? = some y := by
  have := (List.getElem?_eq_some_iff.1 hx).1
  exact ⟨l[j], List.getElem?_eq_getElem (by omega)⟩

theorem View.sound {w : World} {ι : Imap} {F : Nat → Prop} {H : List (Option Blk)} (hH : RelH w ι F H) {c c' : AV} (h : View H c c') : ∀ v, VR w ι F c v → FR w (fun g => F g ∨ fp ι H g) c' v := by
  induction h with
  | frz c h => exact fun v hv => (hv.frozen h).mono (fun _ h => .inl h) fun _ _ => rfl
  | nilro s =>
    intro v hv
    obtain ⟨oa, rfl⟩ := hv.nils_
    exact .ro s [] oa 0 (fun _ _ => default) (by simp) (by simp) (by simp) (by simp)
  | sl id s off len m b rows hb hs hl hrl hrow h ih =>
    intro v hv
    obtain ⟨hrb, _, hblk⟩ := hH.blk id b hb
    have hget : ∀ (i : Nat) (row' : List AV), rows[i]? = some row' → ∃ row, b.rows[off + i]? = some row := by
      intro i row' hi
      have := (List.getElem?_eq_some_iff.1 hi).1
      exact ⟨_, List.getElem?_eq_getElem (by omega)⟩
    rcases hv.sl_ with ⟨oa, rfl, rfl, rfl⟩ | ⟨cap, g, base, n, e, hι, hsh, h1, h2, hfit, rfl⟩
    · obtain rfl : rows = [] := List.eq_nil_of_length_eq_zero hrl
      exact .ro s [] oa 0 (fun _ _ => default) (by simp) (by simp) (by simp) (by simp)
    · obtain ⟨cs, e', vals, h3, h4, h5, h6⟩ := hblk g base hι
      subst hrl
      refine .ro s rows _ cap (fun i j => vals (off + i) j) ⟨by omega, by omega⟩ (fun i row' hi => ?_) (fun i j hi hj => ?_) fun i row' j c' hi hc => ?_
      · obtain ⟨row, hr⟩ := hget i row' hi
        have hil := (List.getElem?_eq_some_iff.1 hi).1
        refine ⟨by rw [hrow i row row' hr hi, hrb _ row hr, hs], _, rfl, rfl, .inr ⟨id, b, base, hb, hι⟩, fun j hj => ?_⟩
        have := (h5 (off + i) j (by omega) (by omega)).1
        rw [hs, Nat.add_mul, ← Nat.add_assoc] at this
        simp [World.cell?, h3, this]
      · exact (h5 (off + i) j (by omega) (by omega)).2
      · obtain ⟨row, hr⟩ := hget i row' hi
        obtain ⟨c, hc0⟩ := get_len (hrow i row row' hr hi) hc
        exact ih i row row' j c c' hr hi hc0 hc _ (h6 _ row j c hr hc0)
  | ptr id s i j b row cells hb hs hr hl h ih =>
    intro v hv
    obtain ⟨g, base, hι, rfl⟩ := hv.ptr_
    obtain ⟨hrb, _, hblk⟩ := hH.blk id b hb
    obtain ⟨cs, e', vals, h3, h4, h5, h6⟩ := hblk g base hι
    have hil := (List.getElem?_eq_some_iff.1 hr).1
    have hrs := hrb i row hr
    refine .rptr cells _ (fun k => vals i (j + k)) rfl (.inr ⟨id, b, base, hb, hι⟩) (fun k hk => ?_) (fun k hk => (h5 i (j + k) hil (by omega)).2) fun k c' hc => ?_
    · have := (h5 i (j + k) hil (by omega)).1
      rw [hs, ← Nat.add_assoc] at this
      simp [World.cell?, h3, this]
    · have hk := (List.getElem?_eq_some_iff.1 hc).1
      have hc0 : row[j + k]? = some row[j + k] := List.getElem?_eq_getElem (by omega)
      exact ih k _ c' hc0 hc _ (h6 i row (j + k) _ hr hc0)
  | agg cs cs' hl h ih =>
    intro v hv
    obtain ⟨us, rfl, hl', hv'⟩ := hv.agg_
    have : ∀ (j : Nat) (c' : AV), cs'[j]? = some c' → ∃ x, us[j]? = some x ∧ x.oneCell' = true ∧ FR w (fun g => F g ∨ fp ι H g) c' x := by
      intro j c' hc'
      obtain ⟨c, hc⟩ := get_len hl hc'
      obtain ⟨x, hx, h1, hr⟩ := hv' j c hc
      exact ⟨x, hx, h1, ih j c c' hc hc' x hr⟩
    refine .agg cs' us (by omega) (fun j => us.getD j default) (fun j hj => by simp [Array.getElem?_eq_getElem (show j < us.size by omega)]) (fun j hj => ?_) fun j c hc => ?_
    · obtain ⟨x, hx, h1, _⟩ := this j cs'[j] (List.getElem?_eq_getElem hj)
      simpa [hx] using h1
    · obtain ⟨x, hx, _, h1⟩ := this j c hc
      simpa [hx] using h1
  | tup cs cs' hl h ih =>
    intro v hv
    obtain ⟨us, rfl, hl', hv'⟩ := hv.tup_
    refine .tup cs' us (by omega) (fun j => us.getD j default) (fun j hj => by simp [Array.getElem?_eq_getElem (show j < us.size by omega)]) fun j c' hc' => ?_
    obtain ⟨c, hc⟩ := get_len hl hc'
    obtain ⟨x, hx, hr⟩ := hv' j c hc
    simpa [hx] using ih j c c' hc hc' x hr
  | fn f cs cs' hl h ih =>
    intro v hv
    obtain ⟨us, rfl, hl', hv'⟩ := hv.fn_
    refine .fn f cs' us (by omega) (fun j => us.getD j default) (fun j hj => by simp [Array.getElem?_eq_getElem (show j < us.size by omega)]) fun j c' hc' => ?_
    obtain ⟨c, hc⟩ := get_len hl hc'
    obtain ⟨x, hx, hr⟩ := hv' j c hc
    simpa [hx] using ih j c c' hc hc' x hr

theorem ViewL.sound {w : World} {ι : Imap} {F : Nat → Prop} {H : List (Option Blk)} (hH : RelH w ι F H) : ∀ {cs cs' : List AV}, ViewL H cs cs' → cs'.length = cs.length ∧ ∀ (j : Nat) (c' : AV) (v : Value), cs'[j]? = some c' → (∀ c, cs[j]? = some c → VR w ι F c v) → FR w (fun g => F g ∨ fp ι H g) c' v
  | [], [], _ => ⟨rfl, fun j c' v h => by simp at h⟩
  | c :: cs, c' :: cs', ⟨h1, h2⟩ => by
    obtain ⟨h3, h4⟩ := ViewL.sound hH h2
    refine ⟨by simp [h3], fun j d' v hd hv => ?_⟩
    cases j with
    | zero =>
      simp only [List.getElem?_cons_zero, Option.some.injEq] at hd
      subst hd
      exact h1.sound hH v (hv c rfl)
    | succ j => exact h4 j d' v (by simpa using hd) (fun d hd' => hv d (by simpa using hd'))
  | [], _ :: _, h => h.elim
  | _ :: _, [], h => h.elim

/-- The whole of an abstract state. -/
structure RS (G : Glob) (N : Nat) (ι : Imap) (F : Nat → Prop) (st : St) (a : Act) (w : World) : Prop where
  t : RelT w ι F st.T a
  h : RelL w ι F st.H
  g : RelG G w F
  n : a.tmps.size = N
  d : a.defers = []

theorem RelT.put {w : World} {ι : Imap} {F : Nat → Prop} {T : Nat → Option AV} {a : Act} {N : Nat} (h : RelT w ι F T a) (hn : a.tmps.size = N) {dst : Option Nat} (hd : ∀ d, dst = some d → d < N) {v : AV} {u : Value} (hv : VR w ι F v u) : RelT w ι F (put T dst v) (a.put dst u) := by
  cases dst with
  | none => exact h
  | some d =>
    intro t c hc
    unfold Go.Aw.put at hc
    simp only at hc
    split at hc
    · rename_i htd
      subst htd
      simp only [Option.some.injEq] at hc
      subst hc
      exact ⟨u, by simp [Act.put, hn, hd t rfl], hv⟩
    · rename_i htd
      obtain ⟨x, hx, hr⟩ := h t c hc
      exact ⟨x, by simp [Act.put, Array.getElem?_setIfInBounds_ne (Ne.symm htd), hx], hr⟩

theorem RelG.same {G : Glob} {w w' : World} {F F' : Nat → Prop} (h : RelG G w F) (hF : ∀ g, F g → F' g) (hw : ∀ a : Addr, F a.block → w'.cell? a = w.cell? a) : RelG G w' F' := by
  intro g cs hg
  obtain ⟨h1, vals, h2, h3⟩ := h g cs hg
  exact ⟨hF _ h1, vals, fun j hj => ⟨(hw ⟨g, j, none⟩ h1).trans (h2 j hj).1, (h2 j hj).2⟩, fun j c hc => (h3 j c hc).mono hF hw⟩

theorem Ext.cellF {ι ι' : Imap} {H H' : List (Option Blk)} {F F' : Nat → Prop} {w w' : World} (h : Ext ι H F w ι' H' F' w') (hR : RelH w ι F H) : ∀ a : Addr, F a.block → w'.cell? a = w.cell? a := by
  intro a ha
  refine cell_block (h.keep _ (hR.fz _ ha) fun ⟨id, b, x, h1, h2⟩ => hR.apart id b _ x h1 h2 ha)
end Go.Aw

/- Every abstract step is sound. -/
set_option linter.unusedVariables false
set_option linter.unusedSimpArgs false
namespace Go.Aw
open Go

section
variable {P : Program} {G : Glob} {N : Nat} {w : World} {ι : Imap} {F : Nat → Prop} {H : List (Option Blk)} {slot : Nat} {ρ : Operand → Option AV} {r : Operand → Value} {c : Prop} {v : AV} {blk : Blk}

theorem evO_yld {o : Oper} (hρ : Rho w ι F ρ r) (hH : RelH w ι F H) (h : evO P ρ H slot o.op = some (c, v, none)) (hc : c) : Yld P w ι F r o v := by
  obtain ⟨dst, op, ty, pos, aft, gd⟩ := o
  cases op
  case move x => exact y_move hρ h
  case assign x => exact y_assign hρ h
  case pick x y z => exact y_pick hρ h
  case extract x k => exact y_extract hρ h
  case nilCheck x => exact y_nilCheck hρ h
  case unOp op t x => exact y_unOp hρ h hc
  case binOp op t x y u => exact y_binOp hρ h hc
  case convert s t x => exact y_convert hρ h
  case fieldAddr s x f => exact y_fieldAddr hρ h
  case field s x f => exact y_field hρ h hc
  case indexAddr t x y => exact y_indexAddr hρ h hc
  case load t x => exact y_load hρ hH h hc
  case slice t x lo hi mx => exact y_slice hρ h hc
  case makeFunc f fi cap => exact y_makeFunc hρ h
  case build t ps => exact y_build hρ h
  case call cl =>
    obtain ⟨callee, args, tys⟩ := cl
    cases callee with
    | builtin b => exact y_builtin hρ (by simpa [evO] using h)
    | value f => simp [evO] at h
    | invoke x m => simp [evO] at h
  case alloc t => simp only [evO] at h; split at h <;> simp at h
  case box t x =>
    simp only [evO, Option.map_eq_some_iff] at h
    obtain ⟨_, _, h⟩ := h
    simp at h
  case buildSlice t n ps =>
    simp only [evO] at h
    split at h
    · split at h
      · simp at h
      · simp at h
    · simp at h
  case makeSlice t x y =>
    simp only [evO] at h
    split at h
    · split at h <;> simp at h
    · simp at h
  all_goals (simp [evO] at h)

theorem evO_mk {o : Oper} (hρ : Rho w ι F ρ r) (h : evO P ρ H slot o.op = some (c, v, some blk)) (hc : c) : Mk P w ι F r o slot v blk := by
  obtain ⟨dst, op, ty, pos, aft, gd⟩ := o
  cases op
  case alloc t => exact m_alloc h
  case box t x => exact m_box hρ h
  case buildSlice t n ps => exact m_buildSlice hρ h
  case makeSlice t x y => exact m_makeSlice hρ h hc
  case call cl =>
    obtain ⟨callee, args, tys⟩ := cl
    cases callee with
    | builtin b =>
      simp only [evO] at h
      unfold evB at h
      split at h
      · split at h
        · split at h <;> simp at h
        · split at h <;> simp at h
        · simp at h
      · split at h <;> simp at h
      · split at h <;> simp at h
      · simp at h
    | value f => simp [evO] at h
    | invoke x m => simp [evO] at h
  case slice t x lo hi mx =>
    exfalso
    cases mx with
    | none =>
      simp only [evO] at h
      repeat' split at h
      all_goals simp at h
    | some mx =>
      simp only [evO] at h
      repeat' split at h
      all_goals simp at h
  all_goals
    exfalso
    simp only [evO] at h
    repeat' split at h
    all_goals (first | (simp at h; done) | (simp only [Option.map_eq_some_iff, Option.bind_eq_some_iff, Prod.mk.injEq] at h; obtain ⟨_, _, h⟩ := h; simp_all; done) | (simp [Option.bind_eq_some_iff] at h; done))

theorem evW_wrt {o : Oper} {H' : List (Option Blk)} {k : Option Nat} (hρ : Rho w ι F ρ r) (hH : RelL w ι F H) (hslot : H[slot]? = some none ∨ ∀ cl, o.op = .call cl → cl.callee ≠ .builtin .append) (h : evW P ρ H slot o.op = some (c, v, H', k)) (hc : c) : Wrt P w ι F H r o v H' k := by
  obtain ⟨dst, op, ty, pos, aft, gd⟩ := o
  cases op
  case store t p x => exact w_store hρ hH h hc
  case call cl =>
    obtain ⟨callee, args, tys⟩ := cl
    cases callee with
    | builtin b =>
      refine w_builtin hρ hH (fun hb => ?_) (by simpa [evW] using h) hc
      rcases hslot with hs | hs
      · exact hs
      · subst hb
        exact absurd rfl (hs _ rfl)
    | value f => simp [evW] at h
    | invoke x m => simp [evW] at h
  all_goals (simp [evW] at h)
end

def setH (H : List (Option Blk)) (slot : Nat) (ob : Option Blk) : List (Option Blk) := match ob with
  | none => H
  | some b => H.set slot (some b)

/-- What a call names, and what is handed over. -/
def CallOf (ρ : Operand → Option AV) (o : Oper) (f : FuncId) (args : List AV) : Prop :=
  ∃ cl x cap args0, o.op = .call cl ∧ cl.callee = .value x ∧ ρ x = some (.fn f cap) ∧ cl.args.toList.mapM ρ = some args0 ∧ args = args0 ++ cap

/-- A step that writes nothing: Hm is the heap as far as it may be looked at. -/
def NW (P : Program) (G : Glob) (o : Oper) (ρ : Operand → Option AV) (Hm : List (Option Blk)) (slot : Nat) (v : AV) (ob : Option Blk) : Prop :=
  (∃ c : Prop, evO P ρ Hm slot o.op = some (c, v, ob) ∧ c) ∨ (ob = none ∧ ∃ f args, CallOf ρ o f args ∧ ((refsL args = [] ∧ PCall P G f args v) ∨ ∃ args', ViewL Hm args args' ∧ PCall P G f args' v ∧ plainR v = true))
/-- A step that writes. -/
def WR (P : Program) (G : Glob) (o : Oper) (ρ : Operand → Option AV) (H : List (Option Blk)) (slot : Nat) (v : AV) (H' : List (Option Blk)) (K : List Nat) : Prop :=
  (∃ (c : Prop) (k : Option Nat), evW P ρ H slot o.op = some (c, v, H', k) ∧ c ∧ K = k.toList) ∨ (∃ f args, CallOf ρ o f args ∧ ECall P G f args H v H' K)

section
variable {P : Program} {G : Glob} {N : Nat} {w : World} {ι : Imap} {F : Nat → Prop} {st : St} {a : Act} {slot : Nat} {v : AV} {o : Oper}

/-- From one state to another: memory as Ext says, words that are not void (M) go on. -/
structure Tr (st : St) (ι : Imap) (F : Nat → Prop) (w : World) (st' : St) (ι' : Imap) (F' : Nat → Prop) (w' : World) : Prop extends Ext ι st.H F w ι' st'.H F' w' where
  car : ∀ c x, (∀ id ∈ refs c, id ∉ st'.M) → VR w ι F c x → VR w' ι' F' c x
  sub : ∀ id, id ∈ st.M → id ∈ st'.M
theorem Tr.refl (st : St) (ι : Imap) (F : Nat → Prop) (w : World) : Tr st ι F w st ι F w := ⟨Ext.refl _ _ _ _, fun _ _ _ h => h, fun _ h => h⟩
theorem Tr.trans {st st1 st2 : St} {ι ι1 ι2 : Imap} {F F1 F2 : Nat → Prop} {w w1 w2 : World} (h : Tr st ι F w st1 ι1 F1 w1) (k : Tr st1 ι1 F1 w1 st2 ι2 F2 w2) : Tr st ι F w st2 ι2 F2 w2 :=
  ⟨h.toExt.trans k.toExt, fun c x hc hx => k.car c x hc (h.car c x (fun id hid hm => hc id hid (k.sub id hm)) hx), fun id hid => k.sub id (h.sub id hid)⟩

theorem RS.rho (h : RS G N ι F st a w) : Rho w ι F (ev G st.T) a.eval := fun x v hx => ev_sound h.t h.g x v hx

theorem RelH.le {H Hm : List (Option Blk)} (h : RelH w ι F H) (hm : ∀ (id : Nat) (b : Blk), Hm[id]? = some (some b) → H[id]? = some (some b)) : RelH w ι F Hm :=
  ⟨fun id b hb => h.blk id b (hm id b hb), fun id id' b b' g x g' x' h1 h2 => h.inj id id' b b' g x g' x' (hm _ _ h1) (hm _ _ h2), fun id b g x h1 => h.apart id b g x (hm _ _ h1), h.fz⟩

theorem callOf_run {f : FuncId} {args : List AV} (hρ : Rho w ι F (ev G st.T) a.eval) (h : CallOf (ev G st.T) o f args) (hf : Callable P f) : ∃ us : Array Value, (execOp a.eval o).run P w = .ok (.enter f us) w ∧ VRL w ι F args us := by
  obtain ⟨cl, x, cap, args0, hop, hcl, hx, ha, rfl⟩ := h
  obtain ⟨us, hus, hl, hv⟩ := (hρ x _ hx).fn_
  obtain ⟨h1, h2⟩ := mapM_rho hρ ha
  obtain ⟨fn, hfn, hname, hbody⟩ := hf
  refine ⟨cl.args.map a.eval ++ us, ?_, ?_⟩
  · obtain ⟨dst, op, ty, pos, aft, gd⟩ := o
    simp only at hop
    subst hop
    obtain ⟨callee, cargs, tys⟩ := cl
    simp only at hcl
    subst hcl
    have hne : ¬ (fn.name = "runtime.NumGoroutine") := by simpa using hname
    have hsome : ¬ (fn.body = none) := by intro h; simp [h] at hbody
    simp [execOp, resolve, Deferred.ofValue, hus, invoke, callFunc, hfn, hne, hsome]
  · refine ⟨by simp [h1, hl], fun j c hc => ?_⟩
    rw [List.getElem?_append] at hc
    split at hc
    · rename_i hlt
      obtain ⟨y, hy, hr⟩ := h2 j c hc
      refine ⟨y, ?_, hr⟩
      rw [Array.getElem?_append_left (by simp at hlt h1 ⊢; omega)]
      simpa using hy
    · rename_i hge
      obtain ⟨y, hy, hr⟩ := hv _ c hc
      refine ⟨y, ?_, hr⟩
      rw [Array.getElem?_append_right (by simp at hge h1 ⊢; omega)]
      rw [← hy]
      congr 1
      simp at h1 ⊢
      omega

theorem nw_sound (hr : RS G N ι F st a w) {Hm : List (Option Blk)} (hm : ∀ (id : Nat) (b : Blk), Hm[id]? = some (some b) → st.H[id]? = some (some b)) {ob : Option Blk} (h : NW P G o (ev G st.T) Hm slot v ob) (hslot : ob ≠ none → st.H[slot]? = some none) (hd : ∀ d, o.dst = some d → d < N)
    {K : Act → World → Prop} {Q : Exit → Act → World → Prop} (hK : ∀ ι' F' a' w', RS G N ι' F' ⟨put st.T o.dst v, setH st.H slot ob, st.M⟩ a' w' → Tr st ι F w ⟨put st.T o.dst v, setH st.H slot ob, st.M⟩ ι' F' w' → K a' w') : o.wp P a w K Q := by
  rcases h with ⟨c, hev, hc⟩ | ⟨rfl, f, args, hcall, hp⟩
  · cases ob with
    | none =>
      obtain ⟨u, hrun, hv⟩ := evO_yld hr.rho (hr.h.toRelH.le hm) hev hc
      unfold Oper.wp
      rw [hrun]
      exact hK ι F _ _ ⟨hr.t.put hr.n hd hv, hr.h, hr.g, by cases o.dst <;> simp [Act.put, hr.n], by cases hdst : o.dst <;> simp [Act.put, hr.d]⟩ ⟨Ext.refl _ _ _ _, fun _ _ _ h => h, fun _ h => h⟩
    | some b =>
      obtain ⟨u, cs, e, hrun, hmb, hv⟩ := evO_mk hr.rho hev hc
      obtain ⟨hR, hE, hS, hold⟩ := hr.h.make (e := e) (hslot (by simp)) hmb
      unfold Oper.wp
      rw [hrun]
      refine hK _ F _ _ ⟨RelT.put (fun t c hc => ?_) hr.n hd ?_, hR, hr.g.same (fun _ h => h) hS.1, by cases o.dst <;> simp [Act.put, hr.n], by cases hdst : o.dst <;> simp [Act.put, hr.d]⟩ ⟨hE, fun c x _ hx => hx.mono (fun _ h => h) hS.1 hS.2 hold, fun _ h => h⟩
      · obtain ⟨x, hx, hxr⟩ := hr.t t c hc
        exact ⟨x, hx, hxr.mono (fun _ h => h) hS.1 hS.2 hold⟩
      · rcases hv with ⟨rfl, rfl⟩ | ⟨len, m, cap, rfl, rfl, h1, h2, h3⟩
        · have := VR.ptr (w := w.alloc (.cells cs e)) (F := F) (ι := fun id => if id = slot then some (w.heap.size, 0) else ι id) slot b.s 0 0 w.heap.size 0 (if_pos rfl)
          simpa using this
        · have := VR.sl (w := w.alloc (.cells cs e)) (F := F) (ι := fun id => if id = slot then some (w.heap.size, 0) else ι id) slot b.s 0 len m cap w.heap.size 0 cs.size e (if_pos rfl) (shape_of_row (heap_alloc_new w _)) h1 h2 (by simpa using h3)
          simpa using this
  · have hH := hr.h.toRelH.le hm
    have hcalls : ∃ us : Array Value, (execOp a.eval o).run P w = .ok (.enter f us) w ∧ Calls P f us w fun e w' => ∃ u, e = .returned u ∧ FR w' (fun g => F g ∨ (w.heap.size ≤ g ∧ g < w'.heap.size)) v u ∧ Kept w w' := by
      rcases hp with ⟨hrf, hp⟩ | ⟨args', hview, hp, hpl⟩
      · obtain ⟨us, hrun, hlen, hvs⟩ := callOf_run hr.rho hcall hp.1
        refine ⟨us, hrun, hp.2 F w us hr.h.fz hr.g ⟨hlen, fun j c hc => ?_⟩⟩
        obtain ⟨x, hx, hxr⟩ := hvs j c hc
        exact ⟨x, hx, hxr.frozen (refsL_nil hrf hc)⟩
      · obtain ⟨us, hrun, hlen, hvs⟩ := callOf_run hr.rho hcall hp.1
        obtain ⟨hvl, hvv⟩ := ViewL.sound hH hview
        refine ⟨us, hrun, (hp.2 (fun g => F g ∨ fp ι Hm g) w us (fun g hg => by
          rcases hg with hg | ⟨id, b, x, h1, h2⟩
          · exact hr.h.fz g hg
          · obtain ⟨_, _, _, h3, _⟩ := (hH.blk id b h1).2.2 g x h2
            exact heap_lt h3) (hr.g.same (fun _ h => .inl h) fun _ _ => rfl) ⟨by omega, fun j c' hc' => by
            obtain ⟨c, hc⟩ := get_len hvl hc'
            obtain ⟨x, hx, hxr⟩ := hvs j c hc
            exact ⟨x, hx, hvv j c' x hc' fun d hd => by rw [hc] at hd; cases hd; exact hxr⟩⟩).mono fun e w' ⟨u, he, hv, hk⟩ => ⟨u, he, hv.plain hpl, hk⟩⟩
    obtain ⟨us, hrun, hcalls⟩ := hcalls
    unfold Oper.wp
    rw [hrun]
    refine hcalls.mono fun e w' ⟨u, he, hv, hk⟩ => ?_
    subst he
    have hS : Same F w w' := ⟨fun a ha => cell_block (hk.keep _ (hr.h.fz _ ha)), fun g x hx => by
      rw [shape_block (hk.keep g ?_)]
      · exact hx
      · unfold World.shape? at hx
        split at hx
        · rename_i h; exact heap_lt h
        · cases hx⟩
    have hmono : ∀ {c x}, VR w ι F c x → VR w' ι (fun g => F g ∨ (w.heap.size ≤ g ∧ g < w'.heap.size)) c x := fun hx => hx.mono (fun _ h => .inl h) hS.1 hS.2 fun _ _ h => h
    have hlt : ∀ {k : Nat} {c : Blk} {g x : Nat}, st.H[k]? = some (some c) → ι k = some (g, x) → g < w.heap.size := by
      intro k c g x hk hx
      obtain ⟨_, _, _, h1, _⟩ := (hr.h.blk k c hk).2.2 g x hx
      exact heap_lt h1
    refine hK ι (fun g => F g ∨ (w.heap.size ≤ g ∧ g < w'.heap.size)) _ _ ⟨RelT.put (fun t c hc => ?_) hr.n hd (.fr hv), ⟨⟨fun id b hb => ?_, hr.h.inj, fun id b g x h1 h2 hF => ?_, fun g hg => ?_⟩, hr.h.dom⟩, hr.g.same (fun _ h => .inl h) hS.1, by cases o.dst <;> simp [Act.put, hr.n], by cases hdst : o.dst <;> simp [Act.put, hr.d]⟩ ⟨⟨hk.size, fun g hg _ => hk.keep g hg, hS.2, hk.os, hk.tape, hk.output, fun _ h => .inl h, fun g hg => ?_, fun g hg => .inl hg⟩, fun c x _ hx => hmono hx, fun _ h => h⟩
    · obtain ⟨x, hx, hxr⟩ := hr.t t c hc
      exact ⟨x, hx, hmono hxr⟩
    · obtain ⟨h1, h2, h3⟩ := hr.h.blk id b hb
      refine ⟨h1, h2, fun g base hg => ?_⟩
      obtain ⟨cs, e, vals, h4, h5, h6, h7⟩ := h3 g base hg
      exact ⟨cs, e, vals, by rw [hk.keep g (heap_lt h4)]; exact h4, h5, h6, fun i row j c hi hc => hmono (h7 i row j c hi hc)⟩
    · rcases hF with hF | hF
      · exact hr.h.apart id b g x h1 h2 hF
      · have := hlt h1 h2
        omega
    · rcases hg with hg | hg
      · exact Nat.lt_of_lt_of_le (hr.h.fz g hg) hk.size
      · exact hg.2
    · rcases hg with hg | hg
      · exact .inl hg
      · exact .inr (.inr hg.1)

theorem killO_K {k : Option Nat} {c : AV} : killK k.toList c = killO k c := by
  cases k with
  | none => simp [killK, killO]
  | some id =>
    simp only [killK, killO, kill, Option.toList]
    congr 1
    simp [List.any_eq_true, List.contains_eq_any_beq]

theorem killK_off {Ks : List Nat} {c : AV} (h : ∀ id ∈ refs c, id ∉ Ks) : killK Ks c = c := by
  unfold killK
  rw [if_neg]
  intro ha
  rw [List.any_eq_true] at ha
  obtain ⟨id, h1, h2⟩ := ha
  exact h id h1 (by simpa using h2)

theorem wr_sound (hr : RS G N ι F st a w) {H' : List (Option Blk)} {Ks : List Nat} (h : WR P G o (ev G st.T) st.H slot v H' Ks) (hslot : st.H[slot]? = some none ∨ ∀ cl, o.op = .call cl → cl.callee ≠ .builtin .append) (hd : ∀ d, o.dst = some d → d < N)
    {K : Act → World → Prop} {Q : Exit → Act → World → Prop} (hK : ∀ ι' F' a' w', RS G N ι' F' ⟨put (killKT Ks st.T) o.dst v, H', Ks ++ st.M⟩ a' w' → Tr st ι F w ⟨put (killKT Ks st.T) o.dst v, H', Ks ++ st.M⟩ ι' F' w' → K a' w') : o.wp P a w K Q := by
  have hkt : ∀ {w' : World} {ι' : Imap} {F' : Nat → Prop}, (∀ c x, VR w ι F c x → VR w' ι' F' (killK Ks c) x) → RelT w' ι' F' (killKT Ks st.T) a := by
    intro w' ι' F' hk t c hc
    unfold killKT at hc
    rw [Option.map_eq_some_iff] at hc
    obtain ⟨c0, h1, rfl⟩ := hc
    obtain ⟨x, hx, hxr⟩ := hr.t t c0 h1
    exact ⟨x, hx, hk c0 x hxr⟩
  rcases h with ⟨c, k, hev, hc, rfl⟩ | ⟨f, args, hcall, he⟩
  · obtain ⟨w', ι', u, hrun, hv, hR, hE, hK'⟩ := evW_wrt hr.rho hr.h hslot hev hc
    have hg := hr.g.same (F' := F) (w' := w') (fun _ h => h) (hE.cellF hr.h.toRelH)
    have hRS : RS G N ι' F ⟨put (killKT k.toList st.T) o.dst v, H', k.toList ++ st.M⟩ (a.put o.dst u) w' :=
      ⟨RelT.put (hkt fun c x hx => by rw [killO_K]; exact hK' c x hx) hr.n hd hv, hR, hg, by cases o.dst <;> simp [Act.put, hr.n], by cases hdst : o.dst <;> simp [Act.put, hr.d]⟩
    have hTr : Tr st ι F w ⟨put (killKT k.toList st.T) o.dst v, H', k.toList ++ st.M⟩ ι' F w' := ⟨hE, fun c x hc hx => by
      have h1 := hK' c x hx
      rw [← killO_K, killK_off (fun id hid hm => hc id hid (by simp only [List.mem_append]; exact .inl hm))] at h1
      exact h1, fun id hid => by simp only [List.mem_append]; exact .inr hid⟩
    unfold Oper.wp
    rcases hrun with hrun | ⟨hrun, rfl⟩
    · rw [hrun]
      exact hK ι' F _ _ hRS hTr
    · rw [hrun]
      exact hK ι' F _ _ hRS hTr
  · obtain ⟨us, hrun, hvs⟩ := callOf_run hr.rho hcall he.1
    unfold Oper.wp
    rw [hrun]
    refine (he.2 ι F w us hr.h hr.g hvs).mono fun e w' ⟨u, ι', F', he', hv, hR, hE, hk⟩ => ?_
    subst he'
    exact hK ι' F' _ _ ⟨RelT.put (hkt hk) hr.n hd hv, hR, hr.g.same hE.mono (hE.cellF hr.h.toRelH), by cases o.dst <;> simp [Act.put, hr.n], by cases hdst : o.dst <;> simp [Act.put, hr.d]⟩ ⟨hE, fun c x hc hx => by
      have h1 := hk c x hx
      rw [killK_off (fun id hid hm => hc id hid (by simp only [List.mem_append]; exact .inl hm))] at h1
      exact h1, fun id hid => by simp only [List.mem_append]; exact .inr hid⟩
end
end Go.Aw

/- Regions: in the text's order; and, where no two operations of open order disturb each other, in any order. -/
set_option linter.unusedVariables false
set_option linter.unusedSimpArgs false
namespace Go.Aw
open Go

def isAl : Op → Bool
  | .alloc _ | .box _ _ | .buildSlice _ _ _ | .makeSlice _ _ _ => true
  | .call { callee := .builtin .append, .. } => true
  | _ => false
def isWr (cw : List Nat) (i : Nat) : Op → Bool
  | .store _ _ _ => true
  | .call { callee := .builtin b, .. } => match b with
    | .append | .copy | .clear => true
    | _ => false
  | .call { callee := .value _, .. } => cw.contains i
  | _ => false
/-- How many blocks are made ahead of operation i. -/
def alB (ops : Array Oper) (i : Nat) : Nat := ((ops.toList.take i).filter (isAl ·.op)).length
def slotOf (ops : Array Oper) (n0 i : Nat) : Nat := n0 + alB ops i
def wantA (ops : Array Oper) (T : Nat → Option AV) (o : Oper) : Option Bool := match o.guard with
  | none => some true
  | some (j, want) => match ((ops[j]?).bind (·.dst)).bind T with
    | some (.bool b) => some (b == want)
    | some (.tup []) => some false
    | _ => none
def deps (o : Oper) (k : Nat) : Bool := o.after.any fun e => e.on == k && Region.binds .any e
/-- What an operation hangs on, step by step. -/
def depsT (ops : Array Oper) : Nat → Nat → Nat → Bool
  | 0, _, _ => false
  | f + 1, i, r => match ops[i]? with
    | none => false
    | some o => o.after.any fun e => Region.binds .any e && (e.on == r || (decide (r < e.on) && depsT ops f e.on r))
/-- What an operation may look at where the order is open: not what others make that it does not hang on. -/
def maskB (ops : Array Oper) (n0 i : Nat) (id : Nat) : Bool := match ops[i]? with
  | none => false
  | some o => (List.range ops.size).any fun k => k != i && !deps o k && (match ops[k]? with | some p => isAl p.op | none => false) && id == slotOf ops n0 k
def maskH (drawn : Bool) (ops : Array Oper) (n0 i : Nat) (H : List (Option Blk)) : List (Option Blk) := if drawn then H.mapIdx fun id b => if maskB ops n0 i id then none else b else H

def SStep (P : Program) (G : Glob) (ops : Array Oper) (cw : List Nat) (n0 : Nat) (drawn : Bool) (i : Nat) (st st' : St) : Prop :=
  ∃ o, ops[i]? = some o ∧ ((wantA ops st.T o = some false ∧ st' = ⟨put st.T o.dst (.tup []), st.H, st.M⟩) ∨ (wantA ops st.T o = some true ∧
    ((isWr cw i o.op = false ∧ ∃ v ob, NW P G o (ev G st.T) (maskH drawn ops n0 i st.H) (slotOf ops n0 i) v ob ∧ (ob ≠ none → isAl o.op = true ∧ st.H[slotOf ops n0 i]? = some none) ∧ st' = ⟨put st.T o.dst v, setH st.H (slotOf ops n0 i) ob, st.M⟩) ∨
     (isWr cw i o.op = true ∧ ∃ v H' K, WR P G o (ev G st.T) st.H (slotOf ops n0 i) v H' K ∧ (st.H[slotOf ops n0 i]? = some none ∨ ∀ cl, o.op = .call cl → cl.callee ≠ .builtin .append) ∧ st' = ⟨put (killKT K st.T) o.dst v, H', K ++ st.M⟩))))

theorem maskH_le {drawn : Bool} {ops : Array Oper} {n0 i : Nat} {H : List (Option Blk)} (id : Nat) (b : Blk) (h : (maskH drawn ops n0 i H)[id]? = some (some b)) : H[id]? = some (some b) := by
  unfold maskH at h
  split at h
  · rw [List.getElem?_mapIdx, Option.map_eq_some_iff] at h
    obtain ⟨x, hx, h⟩ := h
    split at h
    · cases h
    · rw [hx, h]
  · exact h

section
variable {P : Program} {G : Glob} {N : Nat} {w : World} {ι : Imap} {F : Nat → Prop} {st st' : St} {a : Act} {ops : Array Oper} {cw : List Nat} {n0 : Nat} {drawn : Bool}

theorem wantA_sound (hr : RS G N ι F st a w) {o : Oper} {b : Bool} (h : wantA ops st.T o = some b) : Region.wanted o (yielded ops a.tmps) = b := by
  unfold wantA at h
  unfold Region.wanted
  split at h
  · rename_i hg
    simp only [Option.some.injEq] at h
    subst h
    simp [hg]
  · rename_i j want hg
    simp only [hg]
    split at h
    · rename_i x hx
      simp only [Option.some.injEq] at h
      subst h
      rw [Option.bind_eq_some_iff] at hx
      obtain ⟨d, hd, hx⟩ := hx
      obtain ⟨u, hu, hv⟩ := hr.t d _ hx
      have := hv.bool_
      subst this
      simp [yielded, hd, hu]
    · rename_i hx
      simp only [Option.some.injEq] at h
      subst h
      rw [Option.bind_eq_some_iff] at hx
      obtain ⟨d, hd, hx⟩ := hx
      obtain ⟨u, hu, hv⟩ := hr.t d _ hx
      obtain ⟨us, rfl, _⟩ := hv.tup_
      simp [yielded, hd, hu]
    · cases h

theorem sstep_sound (hr : RS G N ι F st a w) {i : Nat} (h : SStep P G ops cw n0 drawn i st st') (hd : ∀ o d, ops[i]? = some o → o.dst = some d → d < N) {K : Act → World → Prop} {Q : Exit → Act → World → Prop}
    (hK : ∀ ι' F' a' w', RS G N ι' F' st' a' w' → Tr st ι F w st' ι' F' w' → K a' w') : wpOp P ops Q i K a w := by
  obtain ⟨o, ho, h⟩ := h
  unfold wpOp
  simp only [ho]
  rcases h with ⟨hw, rfl⟩ | ⟨hw, h⟩
  · rw [wantA_sound hr hw]
    simp only [Bool.false_eq_true, if_false]
    exact hK ι F _ _ ⟨hr.t.put hr.n (hd o · ho) (.mk_tup (us := #[]) rfl (by simp)), hr.h, hr.g, by cases o.dst <;> simp [Act.put, hr.n], by cases hdst : o.dst <;> simp [Act.put, hr.d]⟩ ⟨Ext.refl _ _ _ _, fun _ _ _ h => h, fun _ h => h⟩
  · rw [wantA_sound hr hw]
    simp only [if_true]
    left
    rcases h with ⟨_, v, ob, hnw, hsl, rfl⟩ | ⟨_, v, H', Ks, hwr, hsl, rfl⟩
    · exact nw_sound hr maskH_le hnw (fun h => (hsl h).2) (hd o · ho) hK
    · exact wr_sound hr hwr hsl (hd o · ho) hK

/-- The steps of a list, one behind the other. -/
def TxtRun (step : Nat → St → St → Prop) : List Nat → St → St → Prop
  | [], s, t => s = t
  | i :: l, s, t => ∃ s1, step i s s1 ∧ TxtRun step l s1 t

theorem wpOps_of_run {Q : Exit → Act → World → Prop} (hd : ∀ (i : Nat) (o : Oper) (d : Nat), ops[i]? = some o → o.dst = some d → d < N) : ∀ (l : List Nat) (st fin : St) (ι : Imap) (F : Nat → Prop) (a : Act) (w : World), RS G N ι F st a w → TxtRun (SStep P G ops cw n0 drawn) l st fin →
    (∀ ι' F' a' w', RS G N ι' F' fin a' w' → Tr st ι F w fin ι' F' w' → Q .normal a' w') → wpOps P ops Q l a w
  | [], st, fin, ι, F, a, w, hr, h, hQ => by
    simp only [TxtRun] at h
    subst h
    exact hQ ι F a w hr (Tr.refl _ _ _ _)
  | i :: l, st, fin, ι, F, a, w, hr, h, hQ => by
    obtain ⟨s1, h1, h2⟩ := h
    rw [wpOps_cons]
    exact sstep_sound hr h1 (hd i) fun ι' F' a' w' hr' hE => wpOps_of_run hd l s1 fin ι' F' a' w' hr' h2 fun ι2 F2 a2 w2 hr2 hE2 => hQ ι2 F2 a2 w2 hr2 (hE.trans hE2)

/-- Any order: whoever may come up next may be taken first. -/
def Swap (step : Nat → St → St → Prop) (r i : Nat) : Prop := ∀ s s1 s2, step r s s1 → step i s1 s2 → ∃ s', step i s s' ∧ step r s' s2

theorem bubble {step : Nat → St → St → Prop} {i : Nat} {l2 : List Nat} : ∀ (l1 : List Nat) (s t : St), (∀ r ∈ l1, Swap step r i) → TxtRun step (l1 ++ i :: l2) s t → ∃ s1, step i s s1 ∧ TxtRun step (l1 ++ l2) s1 t
  | [], s, t, _, h => h
  | r :: l1, s, t, hs, h => by
    obtain ⟨s1, h1, h2⟩ := h
    obtain ⟨s2, h3, h4⟩ := bubble l1 s1 t (fun r hr => hs r (by simp [hr])) h2
    obtain ⟨s', h5, h6⟩ := hs r (by simp) s s1 s2 h1 h3
    exact ⟨s', h5, s2, h6, h4⟩

theorem split_at {l : List Nat} {i : Nat} (h : i ∈ l) : ∃ l1 l2, l = l1 ++ i :: l2 := by
  obtain ⟨l1, l2, rfl⟩ := List.append_of_mem h
  exact ⟨l1, l2, rfl⟩

theorem depsT_listed {listed : Array Bool} (hcl : ∀ j o, ops[j]? = some o → listed.getD j true = true → ∀ e ∈ o.after, Region.binds .any e = true → listed.getD e.on true = true) : ∀ (f i r : Nat), (∀ o, ops[i]? = some o → ∀ e ∈ o.after, Region.binds .any e = true → listed.getD e.on true = true) → depsT ops f i r = true → listed.getD r true = true
  | 0, _, _, _, h => by cases h
  | f + 1, i, r, hi, h => by
    simp only [depsT] at h
    cases ho : ops[i]? with
    | none => rw [ho] at h; cases h
    | some o =>
      rw [ho] at h
      obtain ⟨e, he, h1⟩ := Array.any_eq_true'.1 h
      simp only [Bool.and_eq_true, Bool.or_eq_true, beq_iff_eq] at h1
      have hl := hi o ho e he h1.1
      rcases h1.2 with h2 | h2
      · rw [← h2]; exact hl
      · exact depsT_listed hcl f e.on r (fun o' ho' e' he' hb' => hcl e.on o' ho' hl e' he' hb') h2.2

theorem wpAny_of_run {Q : Exit → Act → World → Prop} (hd : ∀ (i : Nat) (o : Oper) (d : Nat), ops[i]? = some o → o.dst = some d → d < N)
    (hback : ∀ (i : Nat) (o : Oper), ops[i]? = some o → ∀ e ∈ o.after, Region.binds .any e = true → e.on < i)
    (hsw : ∀ (r i : Nat) (o : Oper), r < i → ops[i]? = some o → deps o r = false → depsT ops 6 i r = false → Swap (SStep P G ops cw n0 drawn) r i) :
    ∀ (fuel : Nat) (l : List Nat) (listed : Array Bool) (st fin : St) (ι : Imap) (F : Nat → Prop) (a : Act) (w : World), l.length ≤ fuel → l.Pairwise (· < ·) → listed.size = ops.size → (∀ j, j ∈ l ↔ j < ops.size ∧ listed.getD j true = false) → (∀ j o, ops[j]? = some o → listed.getD j true = true → ∀ e ∈ o.after, Region.binds .any e = true → listed.getD e.on true = true) → RS G N ι F st a w →
      TxtRun (SStep P G ops cw n0 drawn) l st fin → (∀ ι' F' a' w', RS G N ι' F' fin a' w' → Tr st ι F w fin ι' F' w' → Q .normal a' w') → wpAny P .any ops Q fuel listed a w := by
  have done : ∀ (l : List Nat) (listed : Array Bool) (st fin : St) (ι : Imap) (F : Nat → Prop) (a : Act) (w : World), l.Pairwise (· < ·) → listed.size = ops.size → (∀ j, j ∈ l ↔ j < ops.size ∧ listed.getD j true = false) → RS G N ι F st a w → TxtRun (SStep P G ops cw n0 drawn) l st fin →
      (∀ ι' F' a' w', RS G N ι' F' fin a' w' → Tr st ι F w fin ι' F' w' → Q .normal a' w') → Region.ready .any ops listed = [] → Q .normal a w := by
    intro l listed st fin ι F a w hp hsz hl hr h hQ hre
    cases l with
    | nil =>
      simp only [TxtRun] at h
      subst h
      exact hQ ι F a w hr (Tr.refl _ _ _ _)
    | cons i l =>
      exfalso
      obtain ⟨hi1, hi2⟩ := (hl i).1 (by simp)
      have : i ∈ Region.ready .any ops listed := by
        rw [mem_ready]
        refine ⟨hi2, ops[i], Array.getElem?_eq_getElem hi1, fun e he hbe => ?_⟩
        have hlt := hback i _ (Array.getElem?_eq_getElem hi1) e he hbe
        have hnm : e.on ∉ i :: l := by
          intro hm
          rcases List.mem_cons.1 hm with h1 | h1
          · omega
          · have := (List.pairwise_cons.1 hp).1 _ h1
            omega
        rw [hl] at hnm
        have h2 : ¬ listed.getD e.on true = false := fun h3 => hnm ⟨by omega, h3⟩
        have hon : e.on < listed.size := by omega
        simp [Array.getElem?_eq_getElem hon] at h2 ⊢
        exact h2
      rw [hre] at this
      cases this
  intro fuel
  induction fuel with
  | zero =>
    intro l listed st fin ι F a w hlen hp hsz hl hcl hr h hQ
    obtain rfl : l = [] := List.eq_nil_of_length_eq_zero (by omega)
    refine ⟨?_, ?_⟩
    · apply List.eq_nil_iff_forall_not_mem.2
      intro j hj
      obtain ⟨h1, o, ho, _⟩ := mem_ready.1 hj
      have := (hl j).2 ⟨(Array.getElem?_eq_some_iff.1 ho).1, h1⟩
      cases this
    · simp only [TxtRun] at h
      subst h
      exact hQ ι F a w hr (Tr.refl _ _ _ _)
  | succ fuel ih =>
    intro l listed st fin ι F a w hlen hp hsz hl hcl hr h hQ
    refine ⟨done l listed st fin ι F a w hp hsz hl hr h hQ, fun i hi => ?_⟩
    obtain ⟨hun, o, ho, hdep⟩ := mem_ready.1 hi
    have hio : i < ops.size := (Array.getElem?_eq_some_iff.1 ho).1
    have him : i ∈ l := (hl i).2 ⟨hio, hun⟩
    obtain ⟨l1, l2, rfl⟩ := split_at him
    have hp' := List.pairwise_append.1 hp
    obtain ⟨s1, h1, h2⟩ := bubble l1 st fin (fun r hrl => by
      have hrun := ((hl r).1 (by simp [hrl])).2
      refine hsw r i o (hp'.2.2 r hrl i (by simp)) ho ?_ ?_
      rotate_left
      · rw [Bool.eq_false_iff]
        intro hT
        have := depsT_listed hcl 6 i r (fun o' ho' e' he' hb' => by
          rw [ho] at ho'; cases ho'
          have h9 := hdep e' he' hb'
          rcases Nat.lt_or_ge e'.on listed.size with h8 | h8
          · simp [Array.getElem?_eq_getElem h8] at h9 ⊢; exact h9
          · simp [Array.getElem?_eq_none h8]) hT
        rw [hrun] at this; cases this
      unfold deps
      rw [Bool.eq_false_iff]
      intro hany
      obtain ⟨e, he, heq⟩ := Array.any_eq_true'.1 hany
      simp only [Bool.and_eq_true, beq_iff_eq] at heq
      obtain ⟨heq, hbe⟩ := heq
      have := hdep e he hbe
      rw [heq] at this
      have hrs : r < listed.size := by have := ((hl r).1 (by simp [hrl])).1; omega
      simp [Array.getElem?_eq_getElem hrs] at this hrun
      rw [hrun] at this
      cases this) h
    refine sstep_sound hr h1 (hd i) fun ι' F' a' w' hr' hE => ?_
    refine ih (l1 ++ l2) (listed.setIfInBounds i true) s1 fin ι' F' a' w' (by simp at hlen ⊢; omega) ?_ (by simpa using hsz) (fun j => ?_) (fun j o' ho' hlj e' he' hb' => ?_) hr' h2 fun ι2 F2 a2 w2 hr2 hE2 => hQ ι2 F2 a2 w2 hr2 (hE.trans hE2)
    rotate_right
    · by_cases hei : e'.on = i
      · rw [hei]
        rcases Nat.lt_or_ge i listed.size with h8 | h8
        · simp [h8]
        · simp [Array.getElem?_eq_none h8]
      · rw [getD_set_ne true (Ne.symm hei)]
        by_cases hji : j = i
        · subst hji
          rw [ho] at ho'; cases ho'
          have h9 := hdep e' he' hb'
          rcases Nat.lt_or_ge e'.on listed.size with h8 | h8
          · simp [Array.getElem?_eq_getElem h8] at h9 ⊢; exact h9
          · simp [Array.getElem?_eq_none h8]
        · rw [getD_set_ne true (Ne.symm hji)] at hlj
          exact hcl j o' ho' hlj e' he' hb'
    · exact List.pairwise_append.2 ⟨hp'.1, (List.pairwise_cons.1 hp'.2.1).2, fun x hx y hy => hp'.2.2 x hx y (by simp [hy])⟩
    · have hne : j ∈ l1 ++ l2 → j ≠ i := by
        intro hj e
        subst e
        rcases List.mem_append.1 hj with h3 | h3
        · have := hp'.2.2 j h3 j (by simp); omega
        · have := (List.pairwise_cons.1 hp'.2.1).1 j h3; omega
      constructor
      · intro hj
        have h3 := (hl j).1 (by simp only [List.mem_append, List.mem_cons] at hj ⊢; rcases hj with h | h; exact .inl h; exact .inr (.inr h))
        exact ⟨h3.1, by rw [getD_set_ne true (Ne.symm (hne hj))]; exact h3.2⟩
      · rintro ⟨h3, h4⟩
        by_cases hji : j = i
        · subst hji
          simp [hsz, h3] at h4
        · rw [getD_set_ne true (Ne.symm hji)] at h4
          have := (hl j).2 ⟨h3, h4⟩
          simp only [List.mem_append, List.mem_cons] at this ⊢
          rcases this with h | h | h
          · exact .inl h
          · exact absurd h hji
          · exact .inr h
end
end Go.Aw

/- Operations of open order that do not disturb each other. -/
set_option linter.unusedVariables false
set_option linter.unusedSimpArgs false
namespace Go.Aw
open Go

section
variable {P : Program} {G : Glob} {ops : Array Oper} {cw : List Nat} {n0 : Nat}

theorem mapM_congr' {α β : Type} {f g : α → Option β} : ∀ {l : List α}, (∀ x ∈ l, f x = g x) → l.mapM f = l.mapM g
  | [], _ => rfl
  | a :: l, h => by
    rw [List.mapM_cons, List.mapM_cons, h a (by simp), mapM_congr' fun x hx => h x (by simp [hx])]

theorem evO_congr {ρ ρ' : Operand → Option AV} {H : List (Option Blk)} {slot : Nat} {op : Op} (h : ∀ x ∈ op.operands, ρ x = ρ' x) : evO P ρ H slot op = evO P ρ' H slot op := by
  have parts : ∀ ps : Array (Nat × Operand), (∀ x ∈ (ps.toList.map (·.2)).toArray, ρ x = ρ' x) → partsA ρ ps = partsA ρ' ps := fun ps hp =>
    mapM_congr' fun p hm => by
      obtain ⟨i, x⟩ := p
      simp only [hp x (by simp; exact ⟨i, by simpa using hm⟩)]
  have bd : ∀ (d : Int) (o : Option Operand), (∀ x ∈ o.toArray, ρ x = ρ' x) → bound ρ d o = bound ρ' d o := by
    intro d o ho
    cases o with
    | none => rfl
    | some x => simp only [bound, ho x (by simp)]
  cases op <;> simp only [Op.operands] at h <;> simp only [evO]
  case build t ps => rw [parts ps h]
  case buildSlice t n ps => rw [parts ps h]
  case slice t x lo hi mx =>
    have h1 := h x (by simp)
    have h2 : ∀ d, bound ρ d lo = bound ρ' d lo := fun d => bd d lo fun y hy => h y (by simp_all)
    have h3 : ∀ d, bound ρ d hi = bound ρ' d hi := fun d => bd d hi fun y hy => h y (by simp_all)
    have h4 : ∀ d, bound ρ d mx = bound ρ' d mx := fun d => bd d mx fun y hy => h y (by simp_all)
    cases mx with
    | none => simp only [evO, h1, h2, h3]
    | some mx => simp only [evO, h1, h2, h3, h4]
  case makeFunc f fi cap =>
    have : cap.toList.mapM ρ = cap.toList.mapM ρ' := mapM_congr' fun x hx => h x (by simp at hx ⊢; exact .inr hx)
    rw [this]
  case call c =>
    obtain ⟨callee, args, tys⟩ := c
    cases callee with
    | builtin b =>
      simp only [Call.operands] at h
      have ha : ∀ x ∈ args.toList, ρ x = ρ' x := fun x hx => h x (by simpa using hx)
      simp only
      generalize args.toList = l at ha
      generalize tys.toList = tl
      unfold evB
      split
      · simp only [ha _ (List.mem_cons_self ..)]
      · rename_i x y
        simp only [ha x (by simp), ha y (by simp)]
      · rename_i x y
        simp only [ha x (by simp), ha y (by simp)]
      · rfl
    | value f => rfl
    | invoke x m => rfl
  all_goals (first | rfl | (simp_all; done))

theorem evW_congr {ρ ρ' : Operand → Option AV} {H : List (Option Blk)} {slot : Nat} {op : Op} (h : ∀ x ∈ op.operands, ρ x = ρ' x) : evW P ρ H slot op = evW P ρ' H slot op := by
  cases op <;> simp only [Op.operands] at h <;> simp only [evW]
  case store t p x => rw [h p (by simp), h x (by simp)]
  case call c =>
    obtain ⟨callee, args, tys⟩ := c
    cases callee with
    | builtin b =>
      simp only [Call.operands] at h
      have ha : ∀ x ∈ args.toList, ρ x = ρ' x := fun x hx => h x (by simpa using hx)
      simp only
      generalize args.toList = l at ha
      generalize tys.toList = tl
      unfold evWB
      split
      · rename_i s x _ _
        simp only [ha s (by simp), ha x (by simp)]
      · rename_i s x _ _
        simp only [ha s (by simp), ha x (by simp)]
      · simp only [ha _ (List.mem_cons_self ..)]
      · rfl
    | value f => rfl
    | invoke x m => rfl

theorem callOf_congr {ρ ρ' : Operand → Option AV} {o : Oper} {f : FuncId} {args : List AV} (h : ∀ x ∈ o.op.operands, ρ x = ρ' x) (hc : CallOf ρ o f args) : CallOf ρ' o f args := by
  obtain ⟨cl, x, cap, args0, hop, hcl, hx, ha, rfl⟩ := hc
  rw [hop] at h
  simp only [Op.operands, Call.operands, hcl] at h
  refine ⟨cl, x, cap, args0, hop, hcl, by rw [← h x (by simp)]; exact hx, ?_, rfl⟩
  rw [← ha]
  exact (mapM_congr' fun y hy => h y (by simp at hy ⊢; exact .inr hy)).symm

theorem nw_congr {o : Oper} {ρ ρ' : Operand → Option AV} {H : List (Option Blk)} {slot : Nat} {v : AV} {ob : Option Blk} (h : ∀ x ∈ o.op.operands, ρ x = ρ' x) (hn : NW P G o ρ H slot v ob) : NW P G o ρ' H slot v ob := by
  rcases hn with ⟨c, h1, h2⟩ | ⟨h1, f, args, h2, h3⟩
  · exact .inl ⟨c, by rw [← evO_congr h]; exact h1, h2⟩
  · exact .inr ⟨h1, f, args, callOf_congr h h2, h3⟩
theorem wr_congr {o : Oper} {ρ ρ' : Operand → Option AV} {H : List (Option Blk)} {slot : Nat} {v : AV} {H' : List (Option Blk)} {K : List Nat} (h : ∀ x ∈ o.op.operands, ρ x = ρ' x) (hn : WR P G o ρ H slot v H' K) : WR P G o ρ' H slot v H' K := by
  rcases hn with ⟨c, k, h1, h2⟩ | ⟨f, args, h2, h3⟩
  · exact .inl ⟨c, k, by rw [← evW_congr h]; exact h1, h2⟩
  · exact .inr ⟨f, args, callOf_congr h h2, h3⟩

theorem ev_put {T : Nat → Option AV} {d : Option Nat} {v : AV} {o : Oper} (h : ∀ t, d = some t → t ∉ o.looksAt ops) : ∀ x ∈ o.op.operands, ev G (put T d v) x = ev G T x := by
  intro x hx
  cases x with
  | tmp t =>
    cases d with
    | none => rfl
    | some d =>
      simp only [ev, put]
      rw [if_neg]
      intro e
      subst e
      exact h t rfl (List.mem_append_left _ (List.mem_filterMap.2 ⟨.tmp t, by simpa using hx, rfl⟩))
  | const c => rfl
  | global g => rfl
  | func f => rfl
theorem wantA_put {T : Nat → Option AV} {d : Option Nat} {v : AV} {o : Oper} (h : ∀ t, d = some t → t ∉ o.looksAt ops) : wantA ops (put T d v) o = wantA ops T o := by
  unfold wantA
  cases hg : o.guard with
  | none => rfl
  | some p =>
    obtain ⟨j, want⟩ := p
    cases d with
    | none => rfl
    | some d =>
      have : ((ops[j]?).bind (·.dst)).bind (put T (some d) v) = ((ops[j]?).bind (·.dst)).bind T := by
        cases ht : (ops[j]?).bind (·.dst) with
        | none => rfl
        | some t =>
          simp only [Option.bind_some, put]
          rw [if_neg]
          intro e
          subst e
          exact h t rfl (by simp [Oper.looksAt, hg, ht])
      simp only [this]
theorem put_comm {T : Nat → Option AV} {d d' : Option Nat} {v v' : AV} (h : ∀ t, d = some t → d' ≠ some t) : put (put T d v) d' v' = put (put T d' v') d v := by
  cases d with
  | none => cases d' <;> rfl
  | some d =>
    cases d' with
    | none => rfl
    | some d' =>
      have hne : d ≠ d' := fun e => h d rfl (by rw [e])
      funext t
      simp only [put]
      by_cases h1 : t = d' <;> by_cases h2 : t = d <;> simp_all
theorem killKT_put {T : Nat → Option AV} {d : Option Nat} {v : AV} {K : List Nat} : killKT K (put T d v) = put (killKT K T) d (killK K v) := by
  cases d with
  | none => rfl
  | some d =>
    funext t
    simp only [killKT, put]
    split <;> simp
theorem killK_bool {K : List Nat} {c : AV} {b : Bool} (h : killK K c = .bool b) : c = .bool b := by
  unfold killK at h
  split at h
  · cases h
  · exact h
theorem killK_tup {K : List Nat} {c : AV} (h : killK K c = .tup []) : c = .tup [] := by
  unfold killK at h
  split at h
  · cases h
  · exact h
theorem killK_frz {K : List Nat} {c : AV} (h : refs c = []) : killK K c = c := by simp [killK, h]
theorem wantA_kill {T : Nat → Option AV} {K : List Nat} {o : Oper} {b : Bool} : wantA ops (killKT K T) o = some b ↔ wantA ops T o = some b := by
  unfold wantA
  cases hg : o.guard with
  | none => simp
  | some p =>
    obtain ⟨j, want⟩ := p
    simp only
    cases ht : (ops[j]?).bind (·.dst) with
    | none => simp
    | some t =>
      simp only [Option.bind_some, killKT]
      cases hT : T t with
      | none => simp
      | some c =>
        simp only [Option.map_some]
        by_cases h1 : (refs c).any (K.contains ·) = true
        · have : killK K c = .junk := by simp only [killK]; rw [if_pos h1]
          rw [this]
          cases c <;> simp [refs] at h1 ⊢
          rename_i vs
          cases vs with
          | nil => simp [refsL] at h1
          | cons a l => simp
        · have : killK K c = c := by simp only [killK]; rw [if_neg h1]
          rw [this]
theorem ev_kill {T : Nat → Option AV} {K : List Nat} {x : Operand} {v : AV} (h : ev G T x = some v) : ev G (killKT K T) x = some (killK K v) := by
  cases x with
  | tmp t => simp only [ev, killKT] at h ⊢; rw [h]; rfl
  | const c =>
    simp only [ev] at h ⊢
    rw [h, killK_frz]
    unfold valA at h
    have hl : ∀ {l : List Value} {r : List AV}, l.mapM cellA = some r → refsL r = [] := by
      intro l
      induction l with
      | nil => intro r h; simp at h; subst h; rfl
      | cons a l ih =>
        intro r h
        rw [List.mapM_cons] at h
        simp only [Option.bind_eq_bind, Option.bind_eq_some_iff, Option.pure_def, Option.some.injEq] at h
        obtain ⟨b, hb, r', hr, rfl⟩ := h
        have : refs b = [] := by
          unfold cellA at hb
          split at hb <;> simp at hb <;> subst hb <;> rfl
        simp [refsL, this, ih hr]
    split at h
    · rw [Option.map_eq_some_iff] at h
      obtain ⟨r, hr, rfl⟩ := h
      simp only [refs]
      exact hl hr
    · rw [Option.map_eq_some_iff] at h
      obtain ⟨r, hr, rfl⟩ := h
      simp only [refs]
      exact hl hr
    · unfold cellA at h
      split at h <;> simp at h <;> subst h <;> rfl
  | global g =>
    simp only [ev, Option.map_eq_some_iff] at h ⊢
    obtain ⟨cs, hcs, rfl⟩ := h
    exact ⟨cs, hcs, (killK_frz rfl).symm⟩
  | func f =>
    simp only [ev, Option.some.injEq] at h ⊢
    subst h
    exact (killK_frz rfl).symm
theorem ev_unkill {T : Nat → Option AV} {K : List Nat} {x : Operand} {v' : AV} (h : ev G (killKT K T) x = some v') : ∃ v, ev G T x = some v ∧ v' = killK K v := by
  cases x with
  | tmp t =>
    simp only [ev, killKT, Option.map_eq_some_iff] at h ⊢
    obtain ⟨v, h1, h2⟩ := h
    exact ⟨v, h1, h2.symm⟩
  | const c =>
    have h1 : ev G T (.const c) = some v' := h
    have h2 := ev_kill (K := K) h1
    rw [h] at h2
    exact ⟨v', h1, Option.some.inj h2⟩
  | global g =>
    have h1 : ev G T (.global g) = some v' := h
    have h2 := ev_kill (K := K) h1
    rw [h] at h2
    exact ⟨v', h1, Option.some.inj h2⟩
  | func f =>
    have h1 : ev G T (.func f) = some v' := h
    have h2 := ev_kill (K := K) h1
    rw [h] at h2
    exact ⟨v', h1, Option.some.inj h2⟩

theorem setH_comm {H : List (Option Blk)} {s s' : Nat} {b b' : Option Blk} (h : b ≠ none → b' ≠ none → s ≠ s') : setH (setH H s b) s' b' = setH (setH H s' b') s b := by
  cases b with
  | none => cases b' <;> rfl
  | some b =>
    cases b' with
    | none => rfl
    | some b' => exact List.set_comm _ _ (h (by simp) (by simp))
theorem setH_none {H : List (Option Blk)} {s s' : Nat} {b : Option Blk} (h : b ≠ none → s ≠ s') : (setH H s b)[s']? = H[s']? := by
  cases b with
  | none => rfl
  | some b => exact List.getElem?_set_ne (h (by simp))

def isMove : Op → Bool
  | .move _ => true
  | _ => false

theorem alB_lt {r i : Nat} {o : Oper} (h : r < i) (ho : ops[r]? = some o) (ha : isAl o.op = true) : alB ops r < alB ops i := by
  unfold alB
  have hr : r < ops.toList.length := by have := (Array.getElem?_eq_some_iff.1 ho).1; simpa using this
  have hge : ∀ k, r + 1 ≤ k → ((ops.toList.take (r + 1)).filter (isAl ·.op)).length ≤ ((ops.toList.take k).filter (isAl ·.op)).length := by
    intro k hk
    have : ops.toList.take (r + 1) = (ops.toList.take k).take (r + 1) := by rw [List.take_take, Nat.min_eq_left hk]
    rw [this]
    exact (List.Sublist.filter _ (List.take_sublist _ _)).length_le
  have h1 := hge i h
  have h2 : ops.toList.take (r + 1) = ops.toList.take r ++ [o] := by
    rw [List.take_succ_eq_append_getElem hr]
    congr 2
    have := (Array.getElem?_eq_some_iff.1 ho).2
    simpa using this
  rw [h2, List.filter_append] at h1
  simp [ha] at h1
  omega

theorem maskH_set {i k : Nat} {o p : Oper} {H : List (Option Blk)} {b : Option Blk} (ho : ops[i]? = some o) (hp : ops[k]? = some p) (hne : k ≠ i) (hd : deps o k = false) (ha : b ≠ none → isAl p.op = true) : maskH true ops n0 i (setH H (slotOf ops n0 k) b) = maskH true ops n0 i H := by
  cases b with
  | none => rfl
  | some b =>
    have hal := ha (by simp)
    have hm : maskB ops n0 i (slotOf ops n0 k) = true := by
      unfold maskB
      simp only [ho, List.any_eq_true, List.mem_range]
      refine ⟨k, (Array.getElem?_eq_some_iff.1 hp).1, ?_⟩
      simp [hne, hd, hp, hal]
    simp only [maskH, if_true, setH]
    apply List.ext_getElem?
    intro id
    rw [List.getElem?_mapIdx, List.getElem?_mapIdx]
    by_cases hid : id = slotOf ops n0 k
    · subst hid
      rcases Nat.lt_or_ge (slotOf ops n0 k) H.length with hlt | hge
      · rw [List.getElem?_set_self hlt, List.getElem?_eq_getElem hlt]
        simp [hm]
      · rw [List.getElem?_eq_none (by simpa using hge), List.getElem?_eq_none hge]
    · rw [List.getElem?_set_ne (Ne.symm hid)]

/-- Static: two operations that may come up in either order. -/
def commB (ops : Array Oper) (cw : List Nat) (r i : Nat) (p o : Oper) : Bool := p.apart ops o && ((!isWr cw r p.op && !isWr cw i o.op) || isMove p.op || isMove o.op)

theorem swap_of_comm {r i : Nat} {p o : Oper} (hri : r < i) (hp : ops[r]? = some p) (ho : ops[i]? = some o) (hdi : deps o r = false) (hdr : deps p i = false) (hc : commB ops cw r i p o = true) : Swap (SStep P G ops cw n0 true) r i := by
  unfold commB at hc
  rw [Bool.and_eq_true] at hc
  obtain ⟨hap, hcl⟩ := hc
  obtain ⟨h1, h2, h3⟩ := Oper.apart_spec hap
  have hslot : isAl p.op = true → slotOf ops n0 r ≠ slotOf ops n0 i := fun ha => by have := alB_lt hri hp ha; unfold slotOf; omega
  -- a step that writes nothing
  have soft : ∀ (k : Nat) (q : Oper) (s s' : St), ops[k]? = some q → SStep P G ops cw n0 true k s s' → (isWr cw k q.op = false ∨ wantA ops s.T q = some false) → ∃ v ob, s' = ⟨put s.T q.dst v, setH s.H (slotOf ops n0 k) ob, s.M⟩ ∧ (ob ≠ none → isAl q.op = true ∧ s.H[slotOf ops n0 k]? = some none) ∧
      ∀ (s2 : St), wantA ops s2.T q = wantA ops s.T q → (∀ x ∈ q.op.operands, ev G s2.T x = ev G s.T x) → maskH true ops n0 k s2.H = maskH true ops n0 k s.H → (ob ≠ none → s2.H[slotOf ops n0 k]? = some none) → SStep P G ops cw n0 true k s2 ⟨put s2.T q.dst v, setH s2.H (slotOf ops n0 k) ob, s2.M⟩ := by
    intro k q s s' hq hs hsoft
    obtain ⟨q', hq', hs⟩ := hs
    rw [hq] at hq'
    obtain rfl := Option.some.inj hq'
    rcases hs with ⟨hw, rfl⟩ | ⟨hw, hs⟩
    · exact ⟨.tup [], none, rfl, fun h => absurd rfl h, fun s2 hw2 _ _ _ => ⟨q, hq, .inl ⟨by rw [hw2]; exact hw, rfl⟩⟩⟩
    · rcases hs with ⟨hwr, v, ob, hnw, hsl, rfl⟩ | ⟨hwr, _⟩
      · exact ⟨v, ob, rfl, hsl, fun s2 hw2 he hm hs2 => ⟨q, hq, .inr ⟨by rw [hw2]; exact hw, .inl ⟨hwr, v, ob, by rw [hm]; exact nw_congr (fun x hx => (he x hx).symm) hnw, fun h => ⟨(hsl h).1, hs2 h⟩, rfl⟩⟩⟩⟩
      · rcases hsoft with h | h
        · rw [h] at hwr; cases hwr
        · rw [h] at hw; cases hw
  intro s s1 s2 hs1 hs2
  -- both soft
  have both : (isWr cw r p.op = false ∨ wantA ops s.T p = some false) → (isWr cw i o.op = false ∨ wantA ops s1.T o = some false) → ∃ s', SStep P G ops cw n0 true i s s' ∧ SStep P G ops cw n0 true r s' s2 := by
    intro hr hi
    obtain ⟨v, ob, rfl, hob, hre⟩ := soft r p s s1 hp hs1 hr
    obtain ⟨v', ob', rfl, hob', hre'⟩ := soft i o _ s2 ho hs2 hi
    have hne : ob ≠ none → slotOf ops n0 r ≠ slotOf ops n0 i := fun h => hslot (hob h).1
    refine ⟨_, hre' s (wantA_put h1).symm (fun x hx => (ev_put h1 x hx).symm) (maskH_set ho hp (by omega) hdi (fun h => (hob h).1)).symm (fun h => ?_), ?_⟩
    · have := (hob' h).2
      simp only at this
      rwa [setH_none hne] at this
    · have := hre ⟨put s.T o.dst v', setH s.H (slotOf ops n0 i) ob', s.M⟩ (wantA_put h3) (ev_put h3) (maskH_set hp ho (by omega) hdr (fun h => (hob' h).1)) (fun h => by rw [setH_none (fun _ => (hne h).symm)]; exact (hob h).2)
      simp only at this
      rw [put_comm (d := o.dst) (d' := p.dst) (fun t ht hpt => h2 t hpt ht), setH_comm (fun hb' hb => (hne hb).symm)] at this
      exact this
  -- who is a copy, or passed by
  have plain : ∀ (k : Nat) (q : Oper) (s s' : St), ops[k]? = some q → isMove q.op = true → SStep P G ops cw n0 true k s s' → ∃ v, s' = ⟨put s.T q.dst v, s.H, s.M⟩ ∧ ((wantA ops s.T q = some false ∧ v = .tup []) ∨ (wantA ops s.T q = some true ∧ ∃ x, q.op = .move x ∧ ev G s.T x = some v)) := by
    intro k q s s' hq hm hs
    obtain ⟨q', hq', hs⟩ := hs
    rw [hq] at hq'
    obtain rfl := Option.some.inj hq'
    rcases hs with ⟨hw, rfl⟩ | ⟨hw, hs⟩
    · exact ⟨_, rfl, .inl ⟨hw, rfl⟩⟩
    · obtain ⟨dst, op, ty, pos, aft, gd⟩ := q
      cases op <;> simp [isMove] at hm
      rename_i x
      rcases hs with ⟨_, v, ob, hnw, hsl, rfl⟩ | ⟨hwr, _⟩
      · rcases hnw with ⟨c, hev, _⟩ | ⟨_, f, args, ⟨cl, _, _, _, hop, _⟩, _⟩
        · simp only [evO, Option.map_eq_some_iff, Prod.mk.injEq] at hev
          obtain ⟨a, ha, _, rfl, rfl⟩ := hev
          exact ⟨a, rfl, .inr ⟨hw, x, rfl, ha⟩⟩
        · cases hop
      · simp [isWr] at hwr
  have mk : ∀ (k : Nat) (q : Oper) (s : St) (v : AV), ops[k]? = some q → isMove q.op = true → ((wantA ops s.T q = some false ∧ v = .tup []) ∨ (wantA ops s.T q = some true ∧ ∃ x, q.op = .move x ∧ ev G s.T x = some v)) → SStep P G ops cw n0 true k s ⟨put s.T q.dst v, s.H, s.M⟩ := by
    intro k q s v hq hm h
    rcases h with ⟨hw, rfl⟩ | ⟨hw, x, hx, hev⟩
    · exact ⟨q, hq, .inl ⟨hw, rfl⟩⟩
    · refine ⟨q, hq, .inr ⟨hw, .inl ⟨?_, v, none, .inl ⟨True, ?_, trivial⟩, fun h => absurd rfl h, rfl⟩⟩⟩
      · rw [hx]; rfl
      · rw [hx]; simp [evO, hev]
  by_cases hir : isWr cw r p.op = false ∨ wantA ops s.T p = some false
  · by_cases hii : isWr cw i o.op = false ∨ wantA ops s1.T o = some false
    · exact both hir hii
    · -- i writes: r is a copy or passed by
      obtain ⟨o', ho', hs2⟩ := hs2
      rw [ho] at ho'
      obtain rfl := Option.some.inj ho'
      rcases hs2 with ⟨hw, _⟩ | ⟨hw, hs2⟩
      · exact absurd (.inr hw) hii
      · rcases hs2 with ⟨hwr, _⟩ | ⟨hwr, v', H', K, hW, hsl, rfl⟩
        · exact absurd (.inl hwr) hii
        · have hmv : isMove p.op = true := by
            rw [hwr] at hcl
            have hno : isMove o.op = false := by cases ho2 : o.op <;> simp [ho2, isWr] at hwr <;> rfl
            simpa [hno] using hcl
          obtain ⟨v, rfl, hv⟩ := plain r p s s1 hp hmv hs1
          simp only at hW hw hsl
          have hev := ev_put (G := G) (T := s.T) (v := v) h1
          refine ⟨⟨put (killKT K s.T) o.dst v', H', K ++ s.M⟩, ⟨o, ho, .inr ⟨by rw [wantA_put h1] at hw; exact hw, .inr ⟨hwr, v', H', K, wr_congr hev hW, hsl, rfl⟩⟩⟩, ?_⟩
          have := mk r p ⟨put (killKT K s.T) o.dst v', H', K ++ s.M⟩ (killK K v) hp hmv (by
            rcases hv with ⟨h5, rfl⟩ | ⟨h5, x, h6, h7⟩
            · left
              exact ⟨by simp only; rw [wantA_put h3]; exact wantA_kill.2 h5, killK_frz rfl⟩
            · right
              refine ⟨by simp only; rw [wantA_put h3]; exact wantA_kill.2 h5, x, h6, ?_⟩
              simp only
              rw [ev_put h3 x (by rw [h6]; simp [Op.operands])]
              exact ev_kill h7)
          simp only at this
          rw [put_comm (d := o.dst) (d' := p.dst) (fun t ht hpt => h2 t hpt ht), ← killKT_put] at this
          exact this
  · -- r writes: i is a copy or passed by
    obtain ⟨p', hp', hs1⟩ := hs1
    rw [hp] at hp'
    obtain rfl := Option.some.inj hp'
    rcases hs1 with ⟨hw, _⟩ | ⟨hw, hs1⟩
    · exact absurd (.inr hw) hir
    · rcases hs1 with ⟨hwr, _⟩ | ⟨hwr, v, H', K, hW, hsl, rfl⟩
      · exact absurd (.inl hwr) hir
      · have hmv : isMove o.op = true := by
          rw [hwr] at hcl
          have hno : isMove p.op = false := by cases ho2 : p.op <;> simp [ho2, isWr] at hwr <;> rfl
          simpa [hno] using hcl
        obtain ⟨v', rfl, hv⟩ := plain i o _ s2 ho hmv hs2
        simp only at hv
        -- its value ahead of the write
        obtain ⟨v0, hv0, rfl⟩ : ∃ v0, ((wantA ops s.T o = some false ∧ v0 = .tup []) ∨ (wantA ops s.T o = some true ∧ ∃ x, o.op = .move x ∧ ev G s.T x = some v0)) ∧ v' = killK K v0 := by
          rcases hv with ⟨h5, rfl⟩ | ⟨h5, x, h6, h7⟩
          · rw [wantA_put h1] at h5
            exact ⟨.tup [], .inl ⟨wantA_kill.1 h5, rfl⟩, (killK_frz rfl).symm⟩
          · rw [wantA_put h1] at h5
            rw [ev_put h1 x (by rw [h6]; simp [Op.operands])] at h7
            obtain ⟨v0, h8, h9⟩ := ev_unkill h7
            exact ⟨v0, .inr ⟨wantA_kill.1 h5, x, h6, h8⟩, h9⟩
        refine ⟨⟨put s.T o.dst v0, s.H, s.M⟩, mk i o s v0 ho hmv hv0, p, hp, .inr ⟨by simp only; rw [wantA_put h3]; exact hw, .inr ⟨hwr, v, H', K, wr_congr (fun x hx => (ev_put h3 x hx).symm) hW, hsl, ?_⟩⟩⟩
        simp only
        rw [killKT_put, put_comm (d := p.dst) (d' := o.dst) h2]
end
end Go.Aw
