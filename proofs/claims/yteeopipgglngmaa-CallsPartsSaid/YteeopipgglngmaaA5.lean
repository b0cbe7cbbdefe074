/- What is handed in reads as plain data. -/
import Derived.Test.YteeopipgglngmaaA4
import Derived.OpenShut
import Derived.SizedLaws
import Derived.Carry
import Derived.WideShapes
import Derived.RowKit
set_option linter.all false
set_option linter.unusedVariables false
set_option linter.unusedSimpArgs false
namespace Go.Aw
open Go

section
variable {P : Program}

theorem mapM_len {α β : Type} {f : α → Option β} {l : List α} {r : List β} (h : l.mapM f = some r) : l.length = r.length := (mapM_some h).1
theorem cells_get {w : World} {base : Nat} {a : Addr} {n : Nat} {cs : List Value} (h : w.cells? base a n = some cs) : cs.length = n ∧ ∀ j, j < n → ∃ v, cs[j]? = some v ∧ w.cell? (a.add j) = some v := by
  unfold World.cells? at h
  split at h
  · obtain ⟨h1, h2⟩ := mapM_some h
    rw [List.length_range] at h1
    refine ⟨h1.symm, fun j hj => ?_⟩
    have hc : cs[j]? = some cs[j] := List.getElem?_eq_getElem (by omega)
    obtain ⟨x, hx, hf⟩ := h2 j _ hc
    rw [List.getElem?_range hj] at hx
    cases hx
    exact ⟨_, hc, hf⟩
  · cases h

/-- Rows of cells that read as frozen ones. -/
def FC (w : World) (cs : List AV) (us : List Value) : Prop := cs.length = us.length ∧ ∀ (j : Nat) (c : AV), cs[j]? = some c → ∃ u, us[j]? = some u ∧ u.oneCell' = true ∧ FR w (fun g => g < w.heap.size) c u
theorem FC.nil (w : World) : FC w [] [] := ⟨rfl, by simp⟩
theorem FC.one {w : World} {c : AV} {u : Value} (h1 : u.oneCell' = true) (h : FR w (fun g => g < w.heap.size) c u) : FC w [c] [u] := ⟨rfl, fun j d hd => by
  cases j with
  | zero => simp at hd; subst hd; exact ⟨u, rfl, h1, h⟩
  | succ j => simp at hd⟩
theorem FC.app {w : World} {a b : List AV} {u v : List Value} (h : FC w a u) (k : FC w b v) : FC w (a ++ b) (u ++ v) := by
  refine ⟨by simp [h.1, k.1], fun j c hc => ?_⟩
  rw [List.getElem?_append] at hc
  split at hc
  · rename_i hl
    obtain ⟨x, hx, h1, h2⟩ := h.2 j c hc
    exact ⟨x, by rw [List.getElem?_append_left (by rw [← h.1]; exact hl)]; exact hx, h1, h2⟩
  · rename_i hl
    obtain ⟨x, hx, h1, h2⟩ := k.2 _ c hc
    exact ⟨x, by rw [List.getElem?_append_right (by rw [← h.1]; omega), ← h.1]; exact hx, h1, h2⟩

/-- A type's data: cells that stand for what is read. -/
structure Rd (P : Program) (t : TypeId) {α : Type} (cells : α → List AV) (ok : α → Prop) : Prop where
  rd : ∀ {H : Type} (enc : TypeId × Value → H) (w : World) (spare : Nat → Bool) (held : Bool) (fuel : Nat) (cs : List Value) (x : DataW H × List MemPlace),
    DataW.trod enc P w 0 spare held fuel t cs = some x → (∀ n ∈ x.1.weights P t, n ≤ reachBytes) → ∃ y : α, ok y ∧ FC w (cells y) cs

theorem Rd.conv {t : TypeId} {α β : Type} {cells : α → List AV} {ok : α → Prop} {cells' : β → List AV} {ok' : β → Prop} (h : Rd P t cells ok) (g : α → β) (hc : ∀ x, cells' (g x) = cells x) (ho : ∀ x, ok x → ok' (g x)) : Rd P t cells' ok' := by
  constructor; intro H enc w spare held fuel cs x hx hw
  obtain ⟨y, h1, h2⟩ := h.rd enc w spare held fuel cs x hx hw
  exact ⟨g y, ho y h1, by rw [hc]; exact h2⟩
theorem Rd.int {t : TypeId} {k : IntKind} (hu : P.underlying t = some (.int k)) : Rd P t (fun n : Int => [.int k n]) (fun n => (Lit.int k n).wf = true) := by
  constructor; intro H enc w spare held fuel cs x hx hw
  obtain ⟨n, rfl, rfl, h⟩ := DataW.trod_int hu hx
  exact ⟨n, h, .one rfl (.int k n)⟩
theorem Rd.bool {t : TypeId} (hu : P.underlying t = some .bool) : Rd P t (fun b : Bool => [.bool b]) (fun _ => True) := by
  constructor; intro H enc w spare held fuel cs x hx hw
  obtain ⟨b, rfl, rfl⟩ := DataW.trod_bool hu hx
  exact ⟨b, trivial, .one rfl (.bool b)⟩
theorem Rd.str {t : TypeId} (hu : P.underlying t = some .string) : Rd P t (fun s : ByteArray => [.str s]) (fun s => s.size ≤ reachBytes) := by
  constructor; intro H enc w spare held fuel cs x hx hw
  obtain ⟨s, rfl, rfl, h⟩ := DataW.trod_string hu hx
  refine ⟨s, ?_, .one rfl (.str s)⟩
  have := hw s.data.toList.length (by simp [DataW.weights])
  simpa using this

theorem list_of {α : Type} {R : Nat → α → Prop} : ∀ (n : Nat), (∀ i, i < n → ∃ x, R i x) → ∃ xs : List α, xs.length = n ∧ ∀ i x, xs[i]? = some x → R i x
  | 0, _ => ⟨[], rfl, by simp⟩
  | n + 1, h => by
    obtain ⟨xs, h1, h2⟩ := list_of n fun i hi => h i (by omega)
    obtain ⟨y, hy⟩ := h n (by omega)
    refine ⟨xs ++ [y], by simp [h1], fun i x hx => ?_⟩
    rw [List.getElem?_append] at hx
    split at hx
    · exact h2 i x hx
    · rename_i hge
      have : i = n := by
        have := (List.getElem?_eq_some_iff.1 hx).1
        simp at this
        omega
      subst this
      simp [h1] at hx
      subst hx
      exact hy

theorem weightsAll_mem {H : Type} {e : TypeId} : ∀ {ds : List (DataW H)} {d : DataW H}, d ∈ ds → ∀ n ∈ d.weights P e, n ∈ DataW.weightsAll P e ds
  | d0 :: ds, d, hd, n, hn => by
    simp only [DataW.weightsAll, List.mem_append]
    rcases List.mem_cons.1 hd with rfl | hd
    · exact .inl hn
    · exact .inr (weightsAll_mem hd n hn)

theorem Rd.slice {t e : TypeId} {s b : Nat} {α : Type} {cells : α → List AV} {ok : α → Prop} (h : Rd P e cells ok) (hu : P.underlying t = some (.slice e)) (hs : P.cellsOf e = s) (h0 : 0 < s) (hb : P.bytesOf e = b) (hb0 : 0 < b) :
    Rd P t (fun xs : List α => [.ro s (xs.map cells)]) (fun xs => xs.length * b ≤ reachBytes ∧ ∀ x ∈ xs, ok x) := by
  constructor; intro H enc w spare held fuel cs x hx hw
  rcases DataW.trod_slice hu hx with ⟨rfl, rfl⟩ | ⟨a, len, cap, elems, rest, n, rfl, rfl, rfl, _, hlc, hcm, hlen, hel, _, _⟩
  · exact ⟨[], ⟨by simp, by simp⟩, .one rfl (.ro s [] none 0 (fun _ _ => default) (by simp) (by simp) (by simp) (by simp))⟩
  · subst hs
    have hwt : (elems.length + rest.length) * P.bytesOf e ≤ reachBytes := by
      have := hw ((elems.length + rest.length) * P.bytesOf e) (by simp [DataW.weights, hu])
      exact this
    have hstep : ∀ i, i < len → ∃ y : α, ok y ∧ ∃ cs', w.cells? 0 (a.add (i * P.cellsOf e)) (P.cellsOf e) = some cs' ∧ FC w (cells y) cs' := by
      intro i hi
      have hei : elems[i]? = some elems[i] := List.getElem?_eq_getElem (by omega)
      have := hel i hi
      rw [hei, Option.bind_eq_some_iff] at this
      obtain ⟨cs', h1, h2⟩ := this
      obtain ⟨y, hy, hf⟩ := h.rd enc w spare held n cs' _ h2 fun m hm => hw m (by
        simp only [DataW.weights, hu, List.mem_cons, List.mem_append]
        exact .inr (.inl (weightsAll_mem (List.mem_map.2 ⟨_, List.getElem_mem (by omega), rfl⟩) m hm)))
      exact ⟨y, hy, cs', h1, hf⟩
    obtain ⟨xs, hxl, hxs⟩ := list_of len hstep
    have hbound : len * P.bytesOf e ≤ reachBytes := Nat.le_trans (Nat.mul_le_mul_right _ (by omega)) hwt
    refine ⟨xs, ⟨by rw [hxl, ← hb]; exact hbound, fun y hy => ?_⟩, .one rfl ?_⟩
    · obtain ⟨i, hi, rfl⟩ := List.mem_iff_getElem.1 hy
      exact (hxs i _ (List.getElem?_eq_getElem hi)).1
    · have hlen47 : len ≤ 140737488355328 := by
        have h1 : len * 1 ≤ len * P.bytesOf e := Nat.mul_le_mul_left _ (by omega)
        have : reachBytes ≤ 140737488355328 := by decide
        omega
      have hget : ∀ (i : Nat) (row : List AV), (xs.map cells)[i]? = some row → ∃ cs', w.cells? 0 (a.add (i * P.cellsOf e)) (P.cellsOf e) = some cs' ∧ FC w row cs' := by
        intro i row hr
        rw [List.getElem?_map, Option.map_eq_some_iff] at hr
        obtain ⟨y, hy, rfl⟩ := hr
        exact (hxs i y hy).2
      have hsp0 : 0 < xs.length → a.spot = none ∧ a.block < w.heap.size := by
        intro hpos
        obtain ⟨cs', h1, h2⟩ := hget 0 _ (List.getElem?_eq_getElem (by simpa using hpos))
        obtain ⟨h3, h4⟩ := cells_get h1
        obtain ⟨v, _, hv⟩ := h4 0 h0
        simp only [Nat.zero_mul, Addr.add, if_true] at hv
        unfold World.cell? at hv
        split at hv
        · rename_i hh
          split at hv
          · cases hv
          · rename_i hh2
            exact ⟨by simpa using hh2, heap_lt hh⟩
        · cases hv
      have key := FR.ro (w := w) (F := fun g => g < w.heap.size) (P.cellsOf e) (xs.map cells) (some a) cap (fun i j => (w.cell? ((a.add (i * P.cellsOf e)).add j)).getD default) ⟨by simp; omega, by simp; omega⟩ ?_ ?_ ?_
      · rw [List.length_map, hxl] at key
        exact key
      · intro i row hr
        obtain ⟨cs', h1, h2⟩ := hget i row hr
        obtain ⟨h3, h4⟩ := cells_get h1
        obtain ⟨hsp, hblk⟩ := hsp0 (by have := (List.getElem?_eq_some_iff.1 hr).1; simp at this; omega)
        refine ⟨by rw [h2.1, h3], a, rfl, hsp, hblk, fun j hj => ?_⟩
        obtain ⟨v, _, hv⟩ := h4 j hj
        have e : (a.add (i * P.cellsOf e)).add j = ⟨a.block, a.off + i * P.cellsOf e + j, none⟩ := by rw [addr_add _ _ hsp, addr_add _ _ rfl]
        rw [← e, hv, Option.getD_some]
      · intro i j hi hj
        obtain ⟨cs', h1, h2⟩ := hget i _ (List.getElem?_eq_getElem hi)
        obtain ⟨h3, h4⟩ := cells_get h1
        obtain ⟨v, hv0, hv⟩ := h4 j hj
        obtain ⟨u, hu1, hu2, _⟩ := h2.2 j _ (List.getElem?_eq_getElem (by rw [h2.1, h3]; exact hj))
        rw [hv0] at hu1
        cases hu1
        rw [hv]
        exact hu2
      · intro i row j c hr hc
        obtain ⟨cs', h1, h2⟩ := hget i row hr
        obtain ⟨h3, h4⟩ := cells_get h1
        obtain ⟨u, hu1, _, hu3⟩ := h2.2 j c hc
        have hj : j < P.cellsOf e := by
          rw [← h3]; exact (List.getElem?_eq_some_iff.1 hu1).1
        obtain ⟨v, hv0, hv⟩ := h4 j hj
        rw [hv0] at hu1
        cases hu1
        show FR w _ c ((w.cell? ((a.add (i * P.cellsOf e)).add j)).getD default)
        rw [hv]
        exact hu3

/-- Fields, one behind the other from a place on. -/
structure RdF (P : Program) (off : Nat) (fs : List Field) {α : Type} (cells : α → List AV) (ok : α → Prop) (n : Nat) : Prop where
  rd : ∀ {H : Type} (enc : TypeId × Value → H) (w : World) (spare : Nat → Bool) (held : Bool) (fuel : Nat) (cs : List Value) (xs : List (DataW H × List MemPlace)), cs.length = off + n → xs.length = fs.length →
    (∀ (i : Nat) (f : Field), fs[i]? = some f → DataW.trod enc P w 0 spare held fuel f.type ((cs.drop f.offset).take (P.cellsOf f.type)) = xs[i]?) → (∀ m ∈ DataW.weightsEach P (fs.map (·.type)) (xs.map (·.1)), m ≤ reachBytes) → ∃ y : α, ok y ∧ FC w (cells y) (cs.drop off)
theorem RdF.nil (off : Nat) : RdF P off [] (fun _ : Unit => []) (fun _ => True) 0 := by
  constructor; intro H enc w spare held fuel cs xs hl hx h hw
  exact ⟨(), trivial, by rw [List.drop_of_length_le (by omega)]; exact .nil w⟩
theorem RdF.cons {off n k : Nat} {f : Field} {fs : List Field} {α β : Type} {cells : α → List AV} {ok : α → Prop} {cells' : β → List AV} {ok' : β → Prop} (h : Rd P f.type cells ok) (ho : f.offset = off) (hk : P.cellsOf f.type = k) (hf : RdF P (off + k) fs cells' ok' n) :
    RdF P off (f :: fs) (fun x : α × β => cells x.1 ++ cells' x.2) (fun x => ok x.1 ∧ ok' x.2) (k + n) := by
  constructor; intro H enc w spare held fuel cs xs hl hx htr hw
  cases xs with
  | nil => simp at hx
  | cons x xs =>
    simp only [List.map_cons, DataW.weightsEach, List.mem_append] at hw
    have h0 := htr 0 f rfl
    simp only [List.getElem?_cons_zero, ho, hk] at h0
    obtain ⟨y, hy, hc⟩ := h.rd enc w spare held fuel _ x h0 fun m hm => hw m (.inl hm)
    obtain ⟨z, hz, hc2⟩ := hf.rd enc w spare held fuel cs xs (by omega) (by simpa using hx) (fun i g hg => by simpa using htr (i + 1) g (by simpa using hg)) fun m hm => hw m (.inr hm)
    refine ⟨(y, z), ⟨hy, hz⟩, ?_⟩
    have := hc.app hc2
    rwa [← List.drop_drop, List.take_append_drop] at this
theorem Rd.struct {t : TypeId} {fs : List Field} {n : Nat} {α : Type} {cells : α → List AV} {ok : α → Prop} (h : RdF P 0 fs cells ok n) (hu : P.underlying t = some (.struct fs.toArray)) (hn : P.cellsOf t = n) : Rd P t cells ok := by
  constructor; intro H enc w spare held fuel cs x hx hw
  obtain ⟨xs, m, rfl, rfl, h1, h2, h3⟩ := DataW.trod_struct hu hx
  obtain ⟨y, hy, hc⟩ := h.rd enc w spare held m cs xs (by omega) (by simpa using h2) (fun i f hf => h3 i f (by simpa using hf)) fun k hk => hw k (by simpa [DataW.weights, hu] using hk)
  exact ⟨y, hy, by simpa using hc⟩
/-- An array of two. -/
theorem Rd.two {t e : TypeId} {k : Nat} {α : Type} {cells : α → List AV} {ok : α → Prop} (h : Rd P e cells ok) (hu : P.underlying t = some (.array 2 e)) (hk : P.cellsOf e = k) (hn : P.cellsOf t = k + k) : Rd P t (fun x : α × α => cells x.1 ++ cells x.2) (fun x => ok x.1 ∧ ok x.2) := by
  constructor; intro H enc w spare held fuel cs x hx hw
  obtain ⟨xs, m, rfl, rfl, h1, h2, h3⟩ := DataW.trod_array hu hx
  match xs, h2 with
  | [x0, x1], _ =>
    have h4 := h3 0 (by omega)
    have h5 := h3 1 (by omega)
    simp only [Nat.zero_mul, List.drop_zero, Nat.one_mul, List.getElem?_cons_zero, List.getElem?_cons_succ] at h4 h5
    simp only [DataW.weights, hu, DataW.weightsAll, List.map_cons, List.map_nil, List.mem_append] at hw
    obtain ⟨y, hy, hc⟩ := h.rd enc w spare held m _ x0 h4 fun m hm => hw m (.inl hm)
    obtain ⟨z, hz, hc2⟩ := h.rd enc w spare held m _ x1 h5 fun m hm => hw m (.inr (.inl hm))
    refine ⟨(y, z), ⟨hy, hz⟩, ?_⟩
    have := hc.app hc2
    rw [List.take_of_length_le (l := cs.drop (P.cellsOf e)) (by simp; omega), List.take_append_drop] at this
    exact this
end
end Go.Aw

/- For the proofs: from the walk of a law to what its row says. -/
set_option linter.unusedVariables false
namespace Go.Aw
open Go Go.ChangeShapes Go.WideShapes Go.RowKit

theorem kept_to_below {w w' : World} (h : Kept w w') : RowKit.Below w.heap.size w w' := ⟨h.os, h.tape, h.output, h.size, h.keep⟩

/-- A law of one list, true whatever it is; the list reads as it did. -/
theorem law_one {H : Type} {enc : TypeId × Value → H} {P : Program} {f : FuncId} {fn : Func} {sp : ChangeSpec} {t e tb : TypeId} {α : Type} {cell : α → AV} {ok : α → Prop}
    (hl : laidOutB P = true) (hr : P.readableRec t = true) (hrow : t < P.types.size) (hu : P.underlying t = some (.slice e)) (hb : P.underlying tb = some .bool)
    (hp : fn.params = #[t]) (hres : fn.resultTypes = #[tb]) (hv : sp.vars = []) (hfn : ∀ d, sp.fn H [d] = { results := [.lit (.bool true)], args := [d] })
    (hrd : Rd P t (fun x => [cell x]) ok) (hlaw : ∀ x, ok x → PCall P (fun _ => none) f [cell x] (.bool true))
    {W : World} {base : Nat} {args : Array Value} {ds gs : List (DataW H)} {before : List MemPlace}
    (hval : ∀ (j : Nat) t v, fn.params[j]? = some t → args[j]? = some v → Value.okWide P W .any base t v)
    (hW : DataW.Whole enc P fn.params.toList sp.vars false W args.toList ds gs before)
    (hsz : (DataW.weightsEach P (fn.params.toList ++ sp.plain.varTypes P) (ds ++ gs)).all (· ≤ reachBytes) = true) :
    Calls P f args W fun x W' => ∃ v, x = .returned v ∧ sp.post enc P fn false true false false W args v W' := by
  have hW' := hW
  obtain ⟨p, q, hA, hV, rfl, hfz, hnd⟩ := hW
  rw [hp] at hA hval hsz
  rw [hv] at hV
  obtain ⟨rfl, rfl⟩ := trodVars_none hV
  obtain ⟨v0, d0, rfl, rfl, h0⟩ := trodAll_one hA
  obtain ⟨a0, len, cap, rfl⟩ := okWide_slice hu (hval 0 t v0 rfl rfl)
  have h0k := h0
  obtain ⟨fuel, hf⟩ := h0
  obtain ⟨x, hok, hc⟩ := hrd.rd enc W _ _ fuel _ _ hf fun n hn => by
    have := List.all_eq_true.1 hsz n (DataW.weights_mem_each (j := 0) rfl rfl n hn)
    simpa using this
  obtain ⟨u, hu1, _, hfr⟩ := hc.2 0 _ rfl
  have hu2 : (#[Value.slice a0 len cap] : Array Value)[0]? = some u := hu1
  refine ((hlaw x hok).2 (fun g => g < W.heap.size) W #[Value.slice a0 len cap] (fun g h => h) (fun g cs h => by cases h) ⟨rfl, fun j c hj => ?_⟩).mono fun r W' ⟨v, he, hvr, hk⟩ => ?_
  · cases j with
    | zero => cases hj; exact ⟨u, hu2, hfr⟩
    | succ j => simp at hj
  · subst he
    have hb' := kept_to_below hk
    simp only [List.append_nil] at hW'
    have hlt : ∀ x ∈ p, x.block < W.heap.size := fun x hx => hW'.lt x hx
    have hvt : v = .bool true := by cases hvr; rfl
    subst hvt
    have efn : sp.fn H ([d0] ++ []) = { results := [.lit (.bool true)], args := [d0] } := hfn d0
    refine ⟨_, rfl, [d0], [], p, [], p, [], hW', ?_, ?_, ?_, hb'.frame _, fun h => by cases h⟩
    · rw [efn, hres]
      exact trodAll_mk1 (shut_bool hb _)
    · rw [efn, hp]
      exact trodAll_mk1 (Below.trod hl hr hrow h0k hb' hlt)
    · rw [efn, hv]
      exact rfl
end Go.Aw
