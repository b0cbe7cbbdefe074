/- The abstract weakest precondition: regions, control, loops, entry and exit. -/
import Derived.Test.YteeopipgglngmaaA2
import Derived.Deep.LoopGhost
import Derived.ScopeJumps
import Derived.Scope
import Derived.Laws.AppendOwn
import Derived.Below
set_option linter.all false
set_option linter.unusedVariables false
set_option linter.unusedSimpArgs false
namespace Go.Aw
open Go

section
variable {P : Program} {G : Glob} {N : Nat}

/-- From each abstract state on, the code comes to an end as Q says. -/
def AWP (P : Program) (G : Glob) (N : Nat) (c : Code) (Q : Exit → St → Prop) (st : St) : Prop :=
  ∀ (ι : Imap) (F : Nat → Prop) (a : Act) (w : World), RS G N ι F st a w → c.wp P (fun e a' w' => ∃ st' ι' F', Q e st' ∧ RS G N ι' F' st' a' w' ∧ Tr st ι F w st' ι' F' w') a w

/-- Whoever stands for the one stands for the other, over the same memory. -/
def Imp (G : Glob) (N : Nat) (st st' : St) : Prop :=
  ∀ (ι : Imap) (F : Nat → Prop) (a : Act) (w : World), RS G N ι F st a w → ∃ ι' F', RS G N ι' F' st' a w ∧ Tr st ι F w st' ι' F' w
theorem Imp.refl (st : St) : Imp G N st st := fun ι F a w h => ⟨ι, F, h, Tr.refl _ _ _ _⟩
theorem Imp.trans {s t u : St} (h : Imp G N s t) (k : Imp G N t u) : Imp G N s u := fun ι F a w hr =>
  let ⟨ι1, F1, h1, e1⟩ := h ι F a w hr
  let ⟨ι2, F2, h2, e2⟩ := k ι1 F1 a w h1
  ⟨ι2, F2, h2, e1.trans e2⟩

theorem AWP.imp {c : Code} {Q : Exit → St → Prop} {st st' : St} (hi : Imp G N st st') (h : AWP P G N c Q st') : AWP P G N c Q st := fun ι F a w hr => by
  obtain ⟨ι1, F1, h1, e1⟩ := hi ι F a w hr
  exact wp_mono (h ι1 F1 a w h1) fun e a' w' ⟨st2, ι2, F2, hq, hr2, hE⟩ => ⟨st2, ι2, F2, hq, hr2, e1.trans hE⟩
theorem AWP.post {c : Code} {Q Q' : Exit → St → Prop} {st : St} (h : AWP P G N c Q st) (hq : ∀ e s, Q e s → ∃ s', Imp G N s s' ∧ Q' e s') : AWP P G N c Q' st := fun ι F a w hr =>
  wp_mono (h ι F a w hr) fun e a' w' ⟨st2, ι2, F2, hq2, hr2, hE⟩ => by
    obtain ⟨s', hi, hq'⟩ := hq e st2 hq2
    obtain ⟨ι3, F3, hr3, hE3⟩ := hi ι2 F2 a' w' hr2
    exact ⟨s', ι3, F3, hq', hr3, hE.trans hE3⟩

def thenQ (K : St → Prop) (Q : Exit → St → Prop) : Exit → St → Prop
  | .normal, s => K s
  | e, s => Q e s
def blockQ (id : Nat) (Q : Exit → St → Prop) : Exit → St → Prop
  | .exit id', s => if id' = id then Q .normal s else Q (.exit id') s
  | e, s => Q e s

theorem AWP.skip {Q : Exit → St → Prop} {st : St} (h : Q .normal st) : AWP P G N .skip Q st := fun ι F a w hr => wp_skip ⟨st, ι, F, h, hr, Tr.refl _ _ _ _⟩
theorem AWP.exit {id : Nat} {Q : Exit → St → Prop} {st : St} (h : Q (.exit id) st) : AWP P G N (.exit id) Q st := fun ι F a w hr => wp_exit ⟨st, ι, F, h, hr, Tr.refl _ _ _ _⟩
theorem AWP.goto {l : Nat} {Q : Exit → St → Prop} {st : St} (h : Q (.goto l) st) : AWP P G N (.goto l) Q st := fun ι F a w hr => wp_goto ⟨st, ι, F, h, hr, Tr.refl _ _ _ _⟩
theorem AWP.ret {Q : Exit → St → Prop} {st : St} (h : Q .ret st) : AWP P G N .ret Q st := fun ι F a w hr => wp_ret ⟨st, ι, F, h, hr, Tr.refl _ _ _ _⟩
theorem AWP.label {l : Nat} {Q : Exit → St → Prop} {st : St} (h : Q .normal st) : AWP P G N (.label l) Q st := fun ι F a w hr => wp_label ⟨st, ι, F, h, hr, Tr.refl _ _ _ _⟩
theorem AWP.seq {x y : Code} {Q : Exit → St → Prop} {st : St} (h : AWP P G N x (thenQ (AWP P G N y Q) Q) st) : AWP P G N (.seq x y) Q st := fun ι F a w hr => by
  refine wp_seq (wp_mono (h ι F a w hr) fun e a' w' ⟨s, ι1, F1, hq, hr1, hE⟩ => ?_)
  cases e <;> simp only [thenQ] at hq <;> simp only [Exit.then]
  case normal => exact wp_mono (hq ι1 F1 a' w' hr1) fun e a2 w2 ⟨s2, ι2, F2, hq2, hr2, hE2⟩ => ⟨s2, ι2, F2, hq2, hr2, hE.trans hE2⟩
  all_goals exact ⟨s, ι1, F1, hq, hr1, hE⟩
theorem AWP.cond {c : Operand} {x y : Code} {Q : Exit → St → Prop} {st : St} {b : Bool} (hc : ev G st.T c = some (.bool b)) (h1 : b = true → AWP P G N x Q st) (h2 : b = false → AWP P G N y Q st) : AWP P G N (.cond c x y) Q st := fun ι F a w hr =>
  wp_cond_split (hr.rho c _ hc).bool_ (fun hb => h1 hb ι F a w hr) (fun hb => h2 hb ι F a w hr)
theorem AWP.block {id : Nat} {c : Code} {Q : Exit → St → Prop} {st : St} (h : AWP P G N c (blockQ id Q) st) : AWP P G N (.block id c) Q st := fun ι F a w hr => by
  refine wp_block (wp_mono (h ι F a w hr) fun e a' w' ⟨s, ι1, F1, hq, hr1, hE⟩ => ?_)
  cases e <;> simp only [blockQ] at hq <;> simp only [Exit.inBlock]
  case exit id' =>
    split at hq
    · rename_i he; rw [if_pos he]; exact ⟨s, ι1, F1, hq, hr1, hE⟩
    · rename_i he; rw [if_neg he]; exact ⟨s, ι1, F1, hq, hr1, hE⟩
  all_goals exact ⟨s, ι1, F1, hq, hr1, hE⟩

/-- A loop: a family of states at its head, a number that each round lowers. -/
theorem AWP.loop {α : Type} {c : Code} {Q : Exit → St → Prop} {st : St} (I : α → St) (ok : α → Prop) (μ : α → Nat) (x0 : α) (h0 : Imp G N st (I x0)) (hok : ok x0)
    (round : ∀ x, ok x → AWP P G N c (thenQ (fun s => ∃ y, ok y ∧ μ y < μ x ∧ Imp G N s (I y)) Q) (I x)) : AWP P G N (.loop c) Q st := fun ι F a w hr => by
  obtain ⟨ι0, F0, hr0, hE0⟩ := h0 ι F a w hr
  refine wp_loop_ghost (fun n a' w' => ∃ x ι1 F1, ok x ∧ μ x = n ∧ RS G N ι1 F1 (I x) a' w' ∧ Tr st ι F w (I x) ι1 F1 w') (μ x0) ⟨x0, ι0, F0, hok, rfl, hr0, hE0⟩ ?_
  rintro n a' w' ⟨x, ι1, F1, hx, rfl, hr1, hE1⟩
  refine wp_mono (round x hx ι1 F1 a' w' hr1) fun e a2 w2 ⟨s, ι2, F2, hq, hr2, hE2⟩ => ?_
  cases e <;> simp only [thenQ] at hq <;> simp only [Exit.then]
  case normal =>
    obtain ⟨y, hy, hlt, hi⟩ := hq
    obtain ⟨ι3, F3, hr3, hE3⟩ := hi ι2 F2 a2 w2 hr2
    exact ⟨μ y, hlt, y, ι3, F3, hy, rfl, hr3, (hE1.trans hE2).trans hE3⟩
  all_goals exact ⟨s, ι2, F2, hq, hr2, hE1.trans hE2⟩

/-! ### Regions -/
def regB (N : Nat) (ops : Array Oper) (cw : List Nat) (drawn : Bool) : Bool :=
  ops.all (fun o => match o.dst with | some d => decide (d < N) | none => true) &&
  (!drawn || (List.range ops.size).all fun i => match ops[i]? with
    | none => true
    | some o => o.after.all (fun e => decide (e.on < i) || !Region.binds .any e) && (List.range i).all fun r => match ops[r]? with
      | none => true
      | some p => deps o r || commB ops cw r i p o || depsT ops 6 i r)

theorem regB_dst {ops : Array Oper} {cw : List Nat} {drawn : Bool} (h : regB N ops cw drawn = true) : ∀ (i : Nat) (o : Oper) (d : Nat), ops[i]? = some o → o.dst = some d → d < N := by
  intro i o d ho hd
  unfold regB at h
  rw [Bool.and_eq_true] at h
  have := Array.all_eq_true_iff_forall_mem.1 h.1 o (Array.mem_of_getElem? ho)
  simpa [hd] using this

theorem RS.of_heap {ι : Imap} {F : Nat → Prop} {st : St} {a : Act} {w w' : World} (h : RS G N ι F st a w) (he : w'.heap = w.heap) : RS G N ι F st a w' := by
  have hs : Same F w w' := ⟨fun a _ => by simp [World.cell?, he], fun g x hx => by simpa [World.shape?, he] using hx⟩
  exact ⟨fun t v hv => by obtain ⟨u, h1, h2⟩ := h.t t v hv; exact ⟨u, h1, h2.same hs⟩, h.h.of_heap he, h.g.same (fun _ h => h) hs.1, h.n, h.d⟩

theorem get_nones {H : List (Option Blk)} {n id : Nat} {b : Blk} (h : (H ++ List.replicate n none)[id]? = some (some b)) : H[id]? = some (some b) := by
  rw [List.getElem?_append] at h
  split at h
  · exact h
  · rw [List.getElem?_replicate] at h
    split at h <;> simp at h
theorem RelL.nones {w : World} {ι : Imap} {F : Nat → Prop} {H : List (Option Blk)} (h : RelL w ι F H) (n : Nat) : RelL w ι F (H ++ List.replicate n none) :=
  ⟨⟨fun id b hb => h.blk id b (get_nones hb), fun id id' b b' g x g' x' h1 h2 => h.inj id id' b b' g x g' x' (get_nones h1) (get_nones h2), fun id b g x h1 => h.apart id b g x (get_nones h1), h.fz⟩, fun id x hx => by
    obtain ⟨b, hb⟩ := h.dom id x hx
    exact ⟨b, by rw [List.getElem?_append_left (List.getElem?_eq_some_iff.1 hb).1]; exact hb⟩⟩
theorem Ext.nones {ι ι' : Imap} {F F' : Nat → Prop} {H H' : List (Option Blk)} {w w' : World} (n : Nat) (h : Ext ι (H ++ List.replicate n none) F w ι' H' F' w') : Ext ι H F w ι' H' F' w' := by
  have hf : ∀ g, fp ι (H ++ List.replicate n none) g ↔ fp ι H g := fun g => ⟨fun ⟨id, b, x, h1, h2⟩ => ⟨id, b, x, get_nones h1, h2⟩, fun ⟨id, b, x, h1, h2⟩ => ⟨id, b, x, by rw [List.getElem?_append_left (List.getElem?_eq_some_iff.1 h1).1]; exact h1, h2⟩⟩
  exact ⟨h.size, fun g hg hn => h.keep g hg (by rwa [hf]), h.shape, h.os, h.tape, h.output, h.mono, fun g hg => by have := h.newF g hg; rwa [hf] at this, fun g hg => by have := h.newH g hg; rwa [hf] at this⟩

theorem AWP.region {id : Nat} {ops : Array Oper} {draw : Bool} (cw : List Nat) {Q : Exit → St → Prop} {st fin : St} (hm : P.follows .mixedOrders = true) (hB : regB N ops cw draw = true)
    (hrun : TxtRun (SStep P G ops cw st.H.length draw) (List.range ops.size) ⟨st.T, st.H ++ List.replicate (alB ops ops.size) none, st.M⟩ fin) (hQ : Q .normal fin) : AWP P G N (.region id ops draw) Q st := fun ι F a w hr => by
  have hd := regB_dst hB
  cases draw with
  | false =>
    have hr0 : RS G N ι F ⟨st.T, st.H ++ List.replicate (alB ops ops.size) none, st.M⟩ a w := ⟨hr.t, hr.h.nones _, hr.g, hr.n, hr.d⟩
    exact wp_region (wpOps_of_run hd _ _ fin ι F a w hr0 hrun fun ι' F' a' w' hr' hE => ⟨fin, ι', F', hQ, hr', ⟨hE.toExt.nones (alB ops ops.size), hE.car, hE.sub⟩⟩)
  | true =>
    unfold regB at hB
    rw [Bool.and_eq_true] at hB
    simp only [Bool.not_true, Bool.false_or, List.all_eq_true, List.mem_range] at hB
    have hedge : ∀ (i : Nat) (o : Oper), ops[i]? = some o → (∀ e ∈ o.after, Region.binds .any e = true → e.on < i) ∧ ∀ r, r < i → ∀ p, ops[r]? = some p → (deps o r = true ∨ commB ops cw r i p o = true) ∨ depsT ops 6 i r = true := by
      intro i o ho
      have h1 := hB.2 i (Array.getElem?_eq_some_iff.1 ho).1
      simp only [ho, Bool.and_eq_true, List.all_eq_true, List.mem_range] at h1
      refine ⟨fun e he hb => by
        have := Array.all_eq_true_iff_forall_mem.1 h1.1 e he
        simpa [hb] using this, fun r hri p hp => ?_⟩
      have h2 := h1.2 r hri
      simpa [hp] using h2
    have hr0 : RS G N ι F ⟨st.T, st.H ++ List.replicate (alB ops ops.size) none, st.M⟩ a { w with drawn := w.drawn + 1 } := RS.of_heap (w := w) ⟨hr.t, hr.h.nones _, hr.g, hr.n, hr.d⟩ rfl
    refine wp_region_any hm (wpAny_of_run (cw := cw) hd (fun i o ho e he hb => (hedge i o ho).1 e he hb) (fun r i o hri ho hdep hdepT => ?_) ops.size (List.range ops.size) _ _ fin ι F a _ (by simp) (List.pairwise_lt_range) (by simp) (fun j => ?_) (fun j o ho hlj => ?_) hr0 hrun fun ι' F' a' w' hr' hE => ?_)
    · obtain ⟨p, hp⟩ : ∃ p, ops[r]? = some p := ⟨_, Array.getElem?_eq_getElem (by have := (Array.getElem?_eq_some_iff.1 ho).1; omega)⟩
      rcases (hedge i o ho).2 r hri p hp with (h | h) | h
      · rw [hdep] at h; cases h
      rotate_left
      · rw [hdepT] at h; cases h
      · refine swap_of_comm hri hp ho hdep ?_ h
        unfold deps
        rw [Bool.eq_false_iff]
        intro hany
        obtain ⟨e, he, heq⟩ := Array.any_eq_true'.1 hany
        simp only [Bool.and_eq_true, beq_iff_eq] at heq
        have := (hedge r p hp).1 e he heq.2
        omega
    · simp only [List.mem_range]
      constructor
      · intro h; exact ⟨h, by simp [h]⟩
      · exact fun h => h.1
    · exfalso
      have := (Array.getElem?_eq_some_iff.1 ho).1
      simp [this] at hlj
    · have := hE.toExt.nones (alB ops ops.size)
      exact ⟨fin, ι', F', hQ, hr', ⟨⟨this.size, this.keep, this.shape, this.os, this.tape, this.output, this.mono, this.newF, this.newH⟩, fun c x hc hx => hE.car c x hc (hx.same ⟨fun _ _ => rfl, fun _ _ h => h⟩), hE.sub⟩⟩
end
end Go.Aw

/- Regions by computation. -/
set_option linter.unusedVariables false
set_option linter.unusedSimpArgs false
namespace Go.Aw
open Go

def Ob {α : Type} (x : Option α) (f : α → Prop) : Prop := match x with
  | none => False
  | some a => f a
theorem Ob_some {α : Type} (a : α) (f : α → Prop) : Ob (some a) f = f a := rfl
theorem Ob_none {α : Type} (f : α → Prop) : Ob none f = False := rfl
@[congr] theorem Ob_congr {α : Type} {x y : Option α} {f : α → Prop} (h : x = y) : Ob x f = Ob y f := by rw [h]

def callA (ρ : Operand → Option AV) (x : Operand) (args : List Operand) : Option (FuncId × List AV) := match ρ x with
  | some (.fn f cap) => (args.mapM ρ).map fun as => (f, as ++ cap)
  | _ => none
def PureQ (P : Program) (G : Glob) (f : FuncId) (args : List AV) (Hm : List (Option Blk)) (K : AV → Prop) : Prop :=
  ∃ v, ((refsL args = [] ∧ PCall P G f args v) ∨ ∃ args', ViewL Hm args args' ∧ PCall P G f args' v ∧ plainR v = true) ∧ K v
def EffQ (P : Program) (G : Glob) (f : FuncId) (args : List AV) (H : List (Option Blk)) (K : AV → List (Option Blk) → List Nat → Prop) : Prop :=
  ∃ v H' Ks, ECall P G f args H v H' Ks ∧ K v H' Ks
@[congr] theorem PureQ_congr {P : Program} {G : Glob} {f : FuncId} {args args' : List AV} {Hm Hm' : List (Option Blk)} {K : AV → Prop} (h : args = args') (h' : Hm = Hm') : PureQ P G f args Hm K = PureQ P G f args' Hm' K := by rw [h, h']
@[congr] theorem EffQ_congr {P : Program} {G : Glob} {f : FuncId} {args args' : List AV} {H H' : List (Option Blk)} {K : AV → List (Option Blk) → List Nat → Prop} (h : args = args') (h' : H = H') : EffQ P G f args H K = EffQ P G f args' H' K := by rw [h, h']

def isApp : Op → Bool
  | .call { callee := .builtin .append, .. } => true
  | _ => false

/-- One operation that is carried out. -/
def doQ (P : Program) (G : Glob) (cw : List Nat) (hmf : List (Option Blk) → List (Option Blk)) (i slot : Nat) (o : Oper) (st : St) (Q : St → Prop) : Prop :=
  match o.op with
  | .call { callee := .value x, args, .. } => Ob (callA (ev G st.T) x args.toList) fun fa =>
      if cw.contains i then EffQ P G fa.1 fa.2 st.H fun v H' Ks => Q ⟨put (killKT Ks st.T) o.dst v, H', Ks ++ st.M⟩
      else PureQ P G fa.1 fa.2 (hmf st.H) fun v => Q ⟨put st.T o.dst v, st.H, st.M⟩
  | op => if isWr cw i op then Ob (evW P (ev G st.T) st.H slot op) fun p => p.1 ∧ (isApp op = false ∨ st.H[slot]? = some none) ∧ Q ⟨put (killKT p.2.2.2.toList st.T) o.dst p.2.1, p.2.2.1, p.2.2.2.toList ++ st.M⟩
    else Ob (evO P (ev G st.T) (hmf st.H) slot op) fun p => p.1 ∧ (p.2.2.isNone = true ∨ isAl op = true ∧ st.H[slot]? = some none) ∧ Q ⟨put st.T o.dst p.2.1, setH st.H slot p.2.2, st.M⟩
def stepQ (P : Program) (G : Glob) (ops : Array Oper) (cw : List Nat) (hmf : List (Option Blk) → List (Option Blk)) (i slot : Nat) (o : Oper) (st : St) (Q : St → Prop) : Prop :=
  match o.guard with
  | none => doQ P G cw hmf i slot o st Q
  | some _ => Ob (wantA ops st.T o) fun b => (b = false → Q ⟨put st.T o.dst (.tup []), st.H, st.M⟩) ∧ (b = true → doQ P G cw hmf i slot o st Q)
def runQ (P : Program) (G : Glob) (ops : Array Oper) (cw : List Nat) (hmf : List (Option Blk) → List (Option Blk)) : (i slot : Nat) → List Oper → St → (St → Prop) → Prop
  | _, _, [], st, Q => Q st
  | i, slot, o :: os, st, Q => stepQ P G ops cw hmf i slot o st fun st' => runQ P G ops cw hmf (i + 1) (if isAl o.op then slot + 1 else slot) os st' Q

section
variable {P : Program} {G : Glob} {N : Nat} {ops : Array Oper} {cw : List Nat} {n0 : Nat} {drawn : Bool} {hmf : List (Option Blk) → List (Option Blk)}

theorem View.le {H H' : List (Option Blk)} (hm : ∀ (id : Nat) (b : Blk), H[id]? = some (some b) → H'[id]? = some (some b)) {c c' : AV} (h : View H c c') : View H' c c' := by
  induction h with
  | frz c h => exact .frz c h
  | nilro s => exact .nilro s
  | sl id s off len m b rows hb hs hl hrl hrow h ih => exact .sl id s off len m b rows (hm _ _ hb) hs hl hrl hrow ih
  | ptr id s i j b row cells hb hs hr hl h ih => exact .ptr id s i j b row cells (hm _ _ hb) hs hr hl ih
  | agg cs cs' hl h ih => exact .agg cs cs' hl ih
  | tup cs cs' hl h ih => exact .tup cs cs' hl ih
  | fn f cs cs' hl h ih => exact .fn f cs cs' hl ih
theorem ViewL.le {H H' : List (Option Blk)} (hm : ∀ (id : Nat) (b : Blk), H[id]? = some (some b) → H'[id]? = some (some b)) : ∀ {cs cs' : List AV}, ViewL H cs cs' → ViewL H' cs cs'
  | [], [], _ => trivial
  | _ :: _, _ :: _, ⟨h1, h2⟩ => ⟨h1.le hm, ViewL.le hm h2⟩
  | [], _ :: _, h => h.elim
  | _ :: _, [], h => h.elim

theorem evO_le {ρ : Operand → Option AV} {H H' : List (Option Blk)} {slot : Nat} {op : Op} {x : Prop × AV × Option Blk} (hm : ∀ (id : Nat) (b : Blk), H[id]? = some (some b) → H'[id]? = some (some b)) (h : evO P ρ H slot op = some x) : evO P ρ H' slot op = some x := by
  cases op
  case load t p =>
    simp only [evO] at h ⊢
    split at h
    · exact h
    · rename_i l id s i j h1 h2
      split at h
      · rename_i b hb
        rw [hm _ _ hb]
        exact h
      · cases h
    · cases h
  case slice t x lo hi mx => cases mx <;> exact h
  all_goals exact h

theorem doQ_step {i : Nat} {o : Oper} {st : St} {Q : St → Prop} (ho : ops[i]? = some o) (hm : ∀ (id : Nat) (b : Blk), (hmf st.H)[id]? = some (some b) → (maskH drawn ops n0 i st.H)[id]? = some (some b)) (hw : wantA ops st.T o = some true)
    (h : doQ P G cw hmf i (slotOf ops n0 i) o st Q) : ∃ s', SStep P G ops cw n0 drawn i st s' ∧ Q s' := by
  have gen : (∀ cl x, o.op = .call cl → cl.callee ≠ .value x) → (if isWr cw i o.op then Ob (evW P (ev G st.T) st.H (slotOf ops n0 i) o.op) fun p => p.1 ∧ (isApp o.op = false ∨ st.H[slotOf ops n0 i]? = some none) ∧ Q ⟨put (killKT p.2.2.2.toList st.T) o.dst p.2.1, p.2.2.1, p.2.2.2.toList ++ st.M⟩
    else Ob (evO P (ev G st.T) (hmf st.H) (slotOf ops n0 i) o.op) fun p => p.1 ∧ (p.2.2.isNone = true ∨ isAl o.op = true ∧ st.H[slotOf ops n0 i]? = some none) ∧ Q ⟨put st.T o.dst p.2.1, setH st.H (slotOf ops n0 i) p.2.2, st.M⟩) → ∃ s', SStep P G ops cw n0 drawn i st s' ∧ Q s' := by
    intro hnc h
    split at h
    · rename_i hwr
      cases hev : evW P (ev G st.T) st.H (slotOf ops n0 i) o.op with
      | none => rw [hev] at h; exact h.elim
      | some p =>
        obtain ⟨c, v, H', k⟩ := p
        rw [hev] at h
        obtain ⟨h1, h2, h3⟩ := h
        refine ⟨_, ⟨o, ho, .inr ⟨hw, .inr ⟨hwr, v, H', k.toList, .inl ⟨c, k, hev, h1, rfl⟩, ?_, rfl⟩⟩⟩, h3⟩
        rcases h2 with h2 | h2
        · right
          intro cl hcl hb
          rw [hcl] at h2
          obtain ⟨callee, args, tys⟩ := cl
          simp only at hb
          subst hb
          simp [isApp] at h2
        · exact .inl h2
    · rename_i hwr
      cases hev : evO P (ev G st.T) (hmf st.H) (slotOf ops n0 i) o.op with
      | none => rw [hev] at h; exact h.elim
      | some p =>
        obtain ⟨c, v, ob⟩ := p
        rw [hev] at h
        obtain ⟨h1, h2, h3⟩ := h
        refine ⟨_, ⟨o, ho, .inr ⟨hw, .inl ⟨by simpa using hwr, v, ob, .inl ⟨c, evO_le hm hev, h1⟩, fun hne => ?_, rfl⟩⟩⟩, h3⟩
        rcases h2 with h2 | h2
        · exact absurd (by simpa using h2) hne
        · exact h2
  unfold doQ at h
  split at h
  · rename_i x args tys hop
    cases hca : callA (ev G st.T) x args.toList with
    | none => rw [hca] at h; exact h.elim
    | some fa =>
      obtain ⟨f, as⟩ := fa
      rw [hca] at h
      have hcall : CallOf (ev G st.T) o f as := by
        unfold callA at hca
        split at hca
        · rename_i f' cap hx
          rw [Option.map_eq_some_iff] at hca
          obtain ⟨as0, ha, he⟩ := hca
          simp only [Prod.mk.injEq] at he
          obtain ⟨rfl, rfl⟩ := he
          exact ⟨_, x, cap, as0, hop, rfl, hx, ha, rfl⟩
        · cases hca
      simp only [Ob] at h
      split at h
      · rename_i hcw
        obtain ⟨v, H', Ks, h1, h2⟩ := h
        exact ⟨_, ⟨o, ho, .inr ⟨hw, .inr ⟨by rw [hop]; exact hcw, v, H', Ks, .inr ⟨f, as, hcall, h1⟩, .inr fun cl hcl hb => (by rw [hop] at hcl; cases hcl; cases hb), rfl⟩⟩⟩, h2⟩
      · rename_i hcw
        obtain ⟨v, h1, h2⟩ := h
        refine ⟨_, ⟨o, ho, .inr ⟨hw, .inl ⟨by rw [hop]; simpa [isWr] using hcw, v, none, .inr ⟨rfl, f, as, hcall, ?_⟩, fun h => absurd rfl h, rfl⟩⟩⟩, h2⟩
        rcases h1 with h1 | ⟨as', h1, h3⟩
        · exact .inl h1
        · exact .inr ⟨as', h1.le hm, h3⟩
  · rename_i hnc
    exact gen (fun cl x hcl hb => by
      obtain ⟨callee, args, tys⟩ := cl
      simp only at hb
      subst hb
      exact hnc _ _ _ hcl) h

theorem slotOf_succ {i : Nat} {o : Oper} (ho : ops[i]? = some o) : slotOf ops n0 (i + 1) = if isAl o.op then slotOf ops n0 i + 1 else slotOf ops n0 i := by
  unfold slotOf alB
  have hi : i < ops.toList.length := by have := (Array.getElem?_eq_some_iff.1 ho).1; simpa using this
  have h2 : ops.toList.take (i + 1) = ops.toList.take i ++ [o] := by
    rw [List.take_succ_eq_append_getElem hi]
    congr 2
    have := (Array.getElem?_eq_some_iff.1 ho).2
    simpa using this
  rw [h2, List.filter_append]
  split
  · rename_i ha; simp [ha, Nat.add_assoc]
  · rename_i ha; simp [ha]

theorem runQ_txt (hm : ∀ (i : Nat) (H : List (Option Blk)) (id : Nat) (b : Blk), (hmf H)[id]? = some (some b) → (maskH drawn ops n0 i H)[id]? = some (some b)) : ∀ (os : List Oper) (i : Nat) (st : St) (Q : St → Prop), (∀ k, os[k]? = ops[i + k]?) → runQ P G ops cw hmf i (slotOf ops n0 i) os st Q →
    ∃ fin, TxtRun (SStep P G ops cw n0 drawn) (List.range' i os.length) st fin ∧ Q fin
  | [], i, st, Q, _, h => ⟨st, rfl, h⟩
  | o :: os, i, st, Q, hos, h => by
    have ho : ops[i]? = some o := by have := hos 0; simpa using this.symm
    have next : ∀ s', runQ P G ops cw hmf (i + 1) (if isAl o.op then slotOf ops n0 i + 1 else slotOf ops n0 i) os s' Q → ∃ fin, TxtRun (SStep P G ops cw n0 drawn) (List.range' (i + 1) os.length) s' fin ∧ Q fin := by
      intro s' h'
      rw [← slotOf_succ ho] at h'
      exact runQ_txt hm os (i + 1) s' Q (fun k => by have := hos (k + 1); simpa [Nat.add_assoc, Nat.add_comm 1 k] using this) h'
    have one : ∃ s', SStep P G ops cw n0 drawn i st s' ∧ runQ P G ops cw hmf (i + 1) (if isAl o.op then slotOf ops n0 i + 1 else slotOf ops n0 i) os s' Q := by
      simp only [runQ, stepQ] at h
      split at h
      · rename_i hg
        exact doQ_step ho (hm i st.H) (by simp [wantA, hg]) h
      · rename_i hg
        cases hw : wantA ops st.T o with
        | none => rw [hw] at h; exact h.elim
        | some b =>
          rw [hw] at h
          obtain ⟨h1, h2⟩ := h
          cases b with
          | false => exact ⟨_, ⟨o, ho, .inl ⟨hw, rfl⟩⟩, h1 rfl⟩
          | true => exact doQ_step ho (hm i st.H) hw (h2 rfl)
    obtain ⟨s', h1, h2⟩ := one
    obtain ⟨fin, h3, h4⟩ := next s' h2
    exact ⟨fin, by simp only [List.length_cons, List.range'_succ]; exact ⟨s', h1, h3⟩, h4⟩

theorem maskH_id {H : List (Option Blk)} {i : Nat} (h : drawn = false ∨ alB ops ops.size = 0) : maskH drawn ops n0 i H = H := by
  rcases h with rfl | h
  · rfl
  · cases drawn with
    | false => rfl
    | true =>
      simp only [maskH, if_true]
      apply List.ext_getElem?
      intro id
      rw [List.getElem?_mapIdx]
      have : maskB ops n0 i id = false := by
        unfold maskB
        split
        · rfl
        · rw [Bool.eq_false_iff]
          intro hany
          simp only [List.any_eq_true, List.mem_range] at hany
          obtain ⟨k, hk, h2⟩ := hany
          simp only [Array.getElem?_eq_getElem hk, Bool.and_eq_true] at h2
          have := alB_lt hk (Array.getElem?_eq_getElem hk) h2.1.2
          omega
      simp [this]

theorem mask_take {H : List (Option Blk)} {i : Nat} (id : Nat) (b : Blk) (h : (H.take n0)[id]? = some (some b)) : (maskH drawn ops n0 i H)[id]? = some (some b) := by
  rw [List.getElem?_take] at h
  split at h
  · rename_i hlt
    unfold maskH
    split
    · rw [List.getElem?_mapIdx, h]
      have : maskB ops n0 i id = false := by
        unfold maskB
        split
        · rfl
        · rw [Bool.eq_false_iff]
          intro hany
          simp only [List.any_eq_true, List.mem_range, Bool.and_eq_true, beq_iff_eq] at hany
          obtain ⟨k, hk, _, h2⟩ := hany
          unfold slotOf at h2
          omega
      simp [this]
    · exact h
  · cases h

/-- A region, by computation: in the text's order; a region of open order that makes nothing; a region of open order that reads only what was there. -/
theorem AWP.regionQ {id : Nat} {ops : Array Oper} {draw : Bool} (cw : List Nat) {Q : Exit → St → Prop} {st : St} (hm : P.follows .mixedOrders = true) (hB : regB N ops cw draw = true) (hal : draw = false ∨ alB ops ops.size = 0)
    (h : runQ P G ops cw (fun H => H) 0 st.H.length ops.toList ⟨st.T, st.H ++ List.replicate (alB ops ops.size) none, st.M⟩ (Q .normal)) : AWP P G N (.region id ops draw) Q st := by
  have h0 : slotOf ops st.H.length 0 = st.H.length := by simp [slotOf, alB]
  rw [← h0] at h
  obtain ⟨fin, h1, h2⟩ := runQ_txt (n0 := st.H.length) (drawn := draw) (fun i H id b hb => by rw [maskH_id hal]; exact hb) ops.toList 0 _ _ (fun k => by simp) h
  refine AWP.region cw hm hB (fin := fin) ?_ h2
  rw [← List.range_eq_range'] at h1
  simpa using h1
theorem AWP.regionM {id : Nat} {ops : Array Oper} {draw : Bool} (cw : List Nat) {Q : Exit → St → Prop} {st : St} (hm : P.follows .mixedOrders = true) (hB : regB N ops cw draw = true)
    (h : runQ P G ops cw (fun H => H.take st.H.length) 0 st.H.length ops.toList ⟨st.T, st.H ++ List.replicate (alB ops ops.size) none, st.M⟩ (Q .normal)) : AWP P G N (.region id ops draw) Q st := by
  have h0 : slotOf ops st.H.length 0 = st.H.length := by simp [slotOf, alB]
  obtain ⟨fin, h1, h2⟩ := runQ_txt (ops := ops) (P := P) (G := G) (cw := cw) (Q := Q .normal) (n0 := st.H.length) (drawn := draw) (hmf := fun H => H.take st.H.length) (fun i H id b hb => mask_take id b hb) ops.toList 0 ⟨st.T, st.H ++ List.replicate (alB ops ops.size) none, st.M⟩ (fun k => by simp) (by rw [h0]; exact h)
  refine AWP.region cw hm hB (fin := fin) ?_ h2
  rw [← List.range_eq_range'] at h1
  simpa using h1
end
end Go.Aw

/- Entry and exit of a call; states that imply each other; what is lent. -/
set_option linter.unusedVariables false
set_option linter.unusedSimpArgs false
namespace Go.Aw
open Go

def argT (args : List AV) : Nat → Option AV := fun t => args[t]?

/-- The results, read off a state. -/
def retL (P : Program) (G : Glob) (T : Nat → Option AV) (H : List (Option Blk)) : List ResultVar → (List AV → Prop) → Prop
  | [], K => K []
  | .tmp t :: rs, K => Ob (T t) fun v => retL P G T H rs fun vs => K (v :: vs)
  | .cell a t :: rs, K => Ob (evO P (ev G T) H 0 (.load t (.tmp a))) fun p => p.1 ∧ p.2.2.isNone = true ∧ retL P G T H rs fun vs => K (p.2.1 :: vs)
def retV : List AV → AV
  | [v] => v
  | vs => .tup vs

section
variable {P : Program} {G : Glob} {N : Nat}

theorem retL_run {ι : Imap} {F : Nat → Prop} {st : St} {a : Act} {w : World} (hr : RS G N ι F st a w) : ∀ (rs : List ResultVar) (K : List AV → Prop), retL P G st.T st.H rs K →
    ∃ vs us, K vs ∧ vs.length = us.length ∧ us.length = rs.length ∧ (rs.mapM fun (x : ResultVar) => match x with
      | .tmp t => (pure (a.tmps.getD t undef) : Sem Value)
      | .cell b t => do loadVar t (← asAddr (a.tmps.getD b undef))).run P w = .ok us w ∧ ∀ (j : Nat) (c : AV), vs[j]? = some c → ∃ x, us[j]? = some x ∧ VR w ι F c x
  | [], K, h => ⟨[], [], h, rfl, rfl, by simp, by simp⟩
  | .tmp t :: rs, K, h => by
    simp only [retL] at h
    cases hT : st.T t with
    | none => rw [hT] at h; exact h.elim
    | some v =>
      rw [hT] at h
      obtain ⟨vs, us, h1, h2, h2', h3, h4⟩ := retL_run hr rs _ h
      obtain ⟨u, hu, hv⟩ := hr.t t v hT
      refine ⟨v :: vs, u :: us, h1, by simp [h2], by simp [h2'], ?_, fun j c hc => ?_⟩
      · rw [List.mapM_cons]
        simp only [Sem.run_bind, Sem.run_pure, Result.andThen_ok, h3]
        simp [hu]
      · cases j with
        | zero => simp at hc; subst hc; exact ⟨u, rfl, hv⟩
        | succ j => simpa using h4 j c (by simpa using hc)
  | .cell b t :: rs, K, h => by
    simp only [retL] at h
    cases hev : evO P (ev G st.T) st.H 0 (.load t (.tmp b)) with
    | none => rw [hev] at h; exact h.elim
    | some p =>
      obtain ⟨c, v, ob⟩ := p
      rw [hev] at h
      obtain ⟨hc, hob, h⟩ := h
      have hob' : ob = none := by simpa using hob
      subst hob'
      obtain ⟨vs, us, h1, h2, h2', h3, h4⟩ := retL_run hr rs _ h
      obtain ⟨u, hrun, hv⟩ := y_load (P := P) (dst := none) (ty := 0) (pos := "") (aft := #[]) (gd := none) hr.rho hr.h.toRelH hev hc
      have hload : (do loadVar t (← asAddr (a.tmps.getD b undef)) : Sem Value).run P w = .ok u w := by
        simp only [execOp, Instr.loadAt, Act.eval, Sem.run_bind] at hrun
        cases hx : a.tmps.getD b undef with
        | pointer p =>
          rw [hx] at hrun
          cases p with
          | none => simp [Instr.sureAddr] at hrun
          | some ad =>
            simp only [Instr.sureAddr, Sem.run_pure, Result.andThen_ok] at hrun
            simp only [asAddr, Sem.run_bind, Sem.run_pure, Result.andThen_ok]
            cases hq : (loadVar t ad).run P w with
            | ok x w' => rw [hq] at hrun; simp at hrun; rw [hrun.1, hrun.2]
            | halt x w' => rw [hq] at hrun; simp at hrun
        | _ => rw [hx] at hrun; simp [Instr.sureAddr] at hrun
      refine ⟨v :: vs, u :: us, h1, by simp [h2], by simp [h2'], ?_, fun j c hc => ?_⟩
      · rw [List.mapM_cons]
        simp only [Sem.run_bind, Sem.run_pure, Result.andThen_ok] at hload ⊢
        rw [hload]
        simp only [Result.andThen_ok, h3]
      · cases j with
        | zero => simp at hc; subst hc; exact ⟨u, rfl, hv⟩
        | succ j => simpa using h4 j c (by simpa using hc)

theorem results_run {ι : Imap} {F : Nat → Prop} {st : St} {a : Act} {w : World} {fn : Func} (hr : RS G N ι F st a w) {K : List AV → Prop} (h : retL P G st.T st.H fn.results.toList K) : ∃ vs u, K vs ∧ (results fn a.tmps).run P w = .ok u w ∧ VR w ι F (retV vs) u := by
  obtain ⟨vs, us, h1, h2, h2', h3, h4⟩ := retL_run hr _ K h
  have hrun : ∀ (f : Array Value → Sem Value) , ((fn.results.mapM fun (x : ResultVar) => match x with
      | .tmp t => (pure (a.tmps.getD t undef) : Sem Value)
      | .cell b t => do loadVar t (← asAddr (a.tmps.getD b undef))) >>= f).run P w = (f us.toArray).run P w := by
    intro f
    rw [Array.mapM_eq_mapM_toList]
    have e : ∀ (m : Sem (List Value)), (List.toArray <$> m) = (m >>= fun l => pure l.toArray) := fun _ => rfl
    rw [e, Sem.run_bind, Sem.run_bind, h3, Result.andThen_ok, Sem.run_pure, Result.andThen_ok]
  refine ⟨vs, if h : us.toArray.size = 1 then us.toArray[0] else .tuple us.toArray, h1, ?_, ?_⟩
  · have h9 := hrun (fun vs => pure (if h : vs.size = 1 then vs[0] else .tuple vs))
    unfold results
    exact h9
  · match vs, h2, h4 with
    | [], h2, h4 =>
      obtain rfl : us = [] := List.eq_nil_of_length_eq_zero h2.symm
      exact .mk_tup rfl (by simp)
    | [v], h2, h4 =>
      obtain ⟨u, rfl⟩ : ∃ u, us = [u] := by
        match us, h2 with
        | [u], _ => exact ⟨u, rfl⟩
      obtain ⟨x, hx, hv⟩ := h4 0 v rfl
      simp at hx
      subst hx
      exact hv
    | v :: v' :: vs, h2, h4 =>
      have hne : ¬ us.toArray.size = 1 := by simp; simp at h2; omega
      rw [dif_neg hne]
      exact .mk_tup (by simpa using h2) fun j c hc => by
        obtain ⟨x, hx, hv⟩ := h4 j c hc
        exact ⟨x, by simpa using hx, hv⟩

theorem argT_rel {w : World} {ι : Imap} {F : Nat → Prop} {args : List AV} {us : Array Value} {n : Nat} (h : VRL w ι F args us) : RelT w ι F (argT args) { tmps := us ++ Array.replicate (n - us.size) undef, defers := [] } := by
  intro t v hv
  obtain ⟨x, hx, hr⟩ := h.2 t v hv
  refine ⟨x, ?_, hr⟩
  have : t < us.size := (Array.getElem?_eq_some_iff.1 hx).1
  simp [Array.getElem?_append, this, hx]
  exact (Array.getElem?_eq_some_iff.1 hx).2

/-- How a body ends. -/
def EndQ (P : Program) (G : Glob) (rs : List ResultVar) (K : AV → St → Prop) : Exit → St → Prop
  | .normal, s => retL P G s.T s.H rs fun vs => K (retV vs) s
  | .ret, s => retL P G s.T s.H rs fun vs => K (retV vs) s
  | _, _ => False

theorem PCall.intro {f : FuncId} {fn : Func} {c : Code} {args : List AV} {r : AV} (hf : P.funcs[f]? = some fn) (hname : (fn.name == "runtime.NumGoroutine") = false) (hb : fn.body = some c) (hn : args.length ≤ fn.ntmps)
    (h : AWP P G fn.ntmps c (EndQ P G fn.results.toList fun v s => View s.H v r) ⟨argT args, [], []⟩) : PCall P G f args r := by
  refine ⟨⟨fn, hf, hname, by simp [hb]⟩, fun F w us hF hG hargs => calls_of_wp hf hb ?_⟩
  have hsz : us.size = args.length := hargs.1.symm
  have hr : RS G fn.ntmps (fun _ => none) F ⟨argT args, [], []⟩ { tmps := us ++ Array.replicate (fn.ntmps - us.size) undef, defers := [] } w :=
    ⟨argT_rel ⟨hargs.1, fun j c hc => by obtain ⟨x, h1, h2⟩ := hargs.2 j c hc; exact ⟨x, h1, .fr h2⟩⟩, ⟨⟨fun id b hb => by simp at hb, fun id id' b b' g x g' x' hb => by simp at hb, fun id b g x hb => by simp at hb, hF⟩, fun id x hx => by cases hx⟩, hG, by simp; omega, rfl⟩
  refine wp_mono (h _ F _ w hr) fun e a' w' ⟨s, ι', F', hq, hr', hT⟩ => ?_
  have fin : (retL P G s.T s.H fn.results.toList fun vs => View s.H (retV vs) r) → a'.defers = [] ∧ ∃ v, (results fn a'.tmps).run P w' = .ok v w' ∧ ∃ v', Ending.returned v = .returned v' ∧ FR w' (fun g => F g ∨ (w.heap.size ≤ g ∧ g < w'.heap.size)) r v' ∧ Kept w w' := by
    intro hret
    obtain ⟨vs, u, hview, hrun, hv⟩ := results_run hr' hret
    refine ⟨hr'.d, u, hrun, u, rfl, (hview.sound hr'.h.toRelH u hv).mono (fun g hg => ?_) fun _ _ => rfl, hT.size, fun g hg => hT.keep g hg fun ⟨id, b, x, h1, _⟩ => by simp at h1, hT.os, hT.tape, hT.output⟩
    rcases hg with hg | hg
    · rcases hT.newF g hg with h1 | ⟨id, b, x, h1, _⟩ | h1
      · exact .inl h1
      · simp at h1
      · exact .inr ⟨h1, hr'.h.fz g hg⟩
    · obtain ⟨id, b, x, h1, h2⟩ := hg
      rcases hT.newH g ⟨id, b, x, h1, h2⟩ with ⟨id, b, x, h3, _⟩ | h3
      · simp at h3
      · obtain ⟨_, _, _, h4, _⟩ := (hr'.h.blk id b h1).2.2 g x h2
        exact .inr ⟨h3, heap_lt h4⟩
  cases e <;> simp only [EndQ] at hq <;> simp only [bodyPost]
  case normal => exact fin hq
  case ret => exact fin hq

theorem ECall.intro {f : FuncId} {fn : Func} {c : Code} {args : List AV} {H H' : List (Option Blk)} {r : AV} {K : List Nat} (hf : P.funcs[f]? = some fn) (hname : (fn.name == "runtime.NumGoroutine") = false) (hb : fn.body = some c) (hn : args.length ≤ fn.ntmps)
    (h : AWP P G fn.ntmps c (EndQ P G fn.results.toList fun v s => v = r ∧ s.H = H' ∧ ∀ id, id ∈ s.M → id ∈ K) ⟨argT args, H, []⟩) : ECall P G f args H r H' K := by
  refine ⟨⟨fn, hf, hname, by simp [hb]⟩, fun ι F w us hR hG hargs => calls_of_wp hf hb ?_⟩
  have hsz : us.size = args.length := hargs.1.symm
  have hr : RS G fn.ntmps ι F ⟨argT args, H, []⟩ { tmps := us ++ Array.replicate (fn.ntmps - us.size) undef, defers := [] } w := ⟨argT_rel hargs, hR, hG, by simp; omega, rfl⟩
  refine wp_mono (h _ F _ w hr) fun e a' w' ⟨s, ι', F', hq, hr', hT⟩ => ?_
  have fin : (retL P G s.T s.H fn.results.toList fun vs => retV vs = r ∧ s.H = H' ∧ ∀ id, id ∈ s.M → id ∈ K) → a'.defers = [] ∧ ∃ v, (results fn a'.tmps).run P w' = .ok v w' ∧ ∃ v' ι' F', Ending.returned v = .returned v' ∧ VR w' ι' F' r v' ∧ RelL w' ι' F' H' ∧ Ext ι H F w ι' H' F' w' ∧ ∀ c x, VR w ι F c x → VR w' ι' F' (killK K c) x := by
    intro hret
    obtain ⟨vs, u, ⟨rfl, rfl, hM⟩, hrun, hv⟩ := results_run hr' hret
    refine ⟨hr'.d, u, hrun, u, ι', F', rfl, hv, hr'.h, hT.toExt, fun c x hx => ?_⟩
    unfold killK
    split
    · exact .fr (.junk x)
    · rename_i hno
      refine hT.car c x (fun id hid hm => hno ?_) hx
      rw [List.any_eq_true]
      exact ⟨id, hid, by simpa using hM id hm⟩
  cases e <;> simp only [EndQ] at hq <;> simp only [bodyPost]
  case normal => exact fin hq
  case ret => exact fin hq

/-! ### States that imply each other -/
def liveB (H : List (Option Blk)) (id : Nat) : Bool := match H[id]? with
  | some (some _) => true
  | _ => false

/-- What is forgotten: slots, blocks; what is kept leads only to what is kept. -/
theorem Imp.drop {st st' : St} (hT : ∀ t v, st'.T t = some v → st.T t = some v) (hH : ∀ (id : Nat) (b : Blk), st'.H[id]? = some (some b) → st.H[id]? = some (some b))
    (hTr : ∀ t v, st'.T t = some v → ∀ id ∈ refs v, liveB st'.H id = true) (hHr : ∀ (id : Nat) (b : Blk), st'.H[id]? = some (some b) → ∀ row ∈ b.rows, ∀ id' ∈ refsL row, liveB st'.H id' = true)
    (hM : ∀ id, id ∈ st.M → id ∈ st'.M) (hM' : ∀ id, liveB st.H id = true → liveB st'.H id = true ∨ id ∈ st'.M) : Imp G N st st' := by
  intro ι F a w hr
  let ι' : Imap := fun id => if liveB st'.H id then ι id else none
  have hlive : ∀ {id : Nat} {b : Blk}, st'.H[id]? = some (some b) → liveB st'.H id = true := by
    intro id b h
    simp [liveB, h]
  have hι : ∀ {id x}, ι' id = some x → ι id = some x ∧ liveB st'.H id = true := by
    intro id x h
    by_cases hl : liveB st'.H id = true
    · exact ⟨by simpa [ι', hl] using h, hl⟩
    · simp [ι', hl] at h
  have hret : ∀ {c x}, (∀ id ∈ refs c, liveB st'.H id = true) → VR w ι F c x → VR w ι' F c x := fun h hx => hx.ren fun id hid => by simp [ι', h id hid]
  refine ⟨ι', F, ⟨fun t v hv => ?_, ⟨⟨fun id b hb => ?_, fun id id' b b' g x g' x' h1 h2 h3 h4 => hr.h.inj id id' b b' g x g' x' (hH _ _ h1) (hH _ _ h2) (hι h3).1 (hι h4).1, fun id b g x h1 h2 => hr.h.apart id b g x (hH _ _ h1) (hι h2).1, hr.h.fz⟩, fun id x hx => ?_⟩, hr.g, hr.n, hr.d⟩, ⟨⟨Nat.le_refl _, fun _ _ _ => rfl, fun _ _ h => h, rfl, rfl, rfl, fun _ h => h, fun _ h => .inl h, fun g ⟨id, b, x, h1, h2⟩ => .inl ⟨id, b, x, hH _ _ h1, (hι h2).1⟩⟩, fun c x hc hx => ?_, fun id hid => ?_⟩⟩
  · obtain ⟨x, hx, hxr⟩ := hr.t t v (hT t v hv)
    exact ⟨x, hx, hret (hTr t v hv) hxr⟩
  · obtain ⟨h1, h2, h3⟩ := hr.h.blk id b (hH _ _ hb)
    refine ⟨h1, fun h0 => h2 (by simpa [ι', hlive hb] using h0), fun g base hg => ?_⟩
    obtain ⟨cs, e, vals, h4, h5, h6, h7⟩ := h3 g base (hι hg).1
    exact ⟨cs, e, vals, h4, h5, h6, fun i row j c hi hc => hret (fun id' hid' => hHr id b hb row (List.mem_of_getElem? hi) id' (refsL_mem hc hid')) (h7 i row j c hi hc)⟩
  · have := (hι hx).2
    unfold liveB at this
    split at this
    · rename_i b hb; exact ⟨b, hb⟩
    · cases this
  · refine hx.ren fun id hid => ?_
    by_cases hl : liveB st'.H id = true
    · simp [ι', hl]
    · have hl' : liveB st'.H id = false := by simpa using hl
      have : ι id = none := by
        cases hh : ι id with
        | none => rfl
        | some y =>
          obtain ⟨b, hb⟩ := hr.h.dom id y hh
          rcases hM' id (by simp [liveB, hb]) with h | h
          · exact absurd h hl
          · exact absurd h (hc id hid)
      simp [ι', hl', this]
  · exact hM id hid
end
end Go.Aw

/- For the proofs: encoders, rules for computation. -/
set_option linter.unusedVariables false
set_option linter.unusedSimpArgs false
namespace Go.Aw
open Go

section
variable {P : Program} {G : Glob} {N : Nat}

theorem AWP.ro_le {c : Code} {Q : Exit → St → Prop} {st : St} {t s : Nat} {rows : List (List AV)} (hT : st.T t = some (.ro s rows)) (h : rows.length ≤ 140737488355328 → AWP P G N c Q st) : AWP P G N c Q st := fun ι F a w hr => by
  obtain ⟨u, hu, hv⟩ := hr.t t _ hT
  obtain ⟨oa, cap, vals, _, hcap, _⟩ := hv.ro_
  exact h hcap.2 ι F a w hr

def rowsI (xs : List Int) : List (List AV) := xs.map fun x => [.int .i64 x]
def rowsB (xs : List Bool) : List (List AV) := xs.map fun x => [.bool x]
theorem rowsI_length (xs : List Int) : (rowsI xs).length = xs.length := by simp [rowsI]
theorem rowsB_length (xs : List Bool) : (rowsB xs).length = xs.length := by simp [rowsB]
theorem rowsI_getD (xs : List Int) (i : Nat) (h : i < xs.length) : (rowsI xs).getD i [] = [.int .i64 (xs.getD i 0)] := by simp [rowsI, List.getD_eq_getElem?_getD, List.getElem?_eq_getElem h]
theorem rowsB_getD (xs : List Bool) (i : Nat) (h : i < xs.length) : (rowsB xs).getD i [] = [.bool (xs.getD i false)] := by simp [rowsB, List.getD_eq_getElem?_getD, List.getElem?_eq_getElem h]
theorem refs_rowsI (xs : List Int) : ∀ row ∈ rowsI xs, refsL row = [] := by simp [rowsI, refsL, refs]
theorem refs_rowsB (xs : List Bool) : ∀ row ∈ rowsB xs, refsL row = [] := by
  intro row h
  simp only [rowsB, List.mem_map] at h
  obtain ⟨x, _, rfl⟩ := h
  rfl

theorem put_some (T : Nat → Option AV) (d : Nat) (v : AV) (t : Nat) : put T (some d) v t = if t = d then some v else T t := rfl
theorem put_none (T : Nat → Option AV) (v : AV) : put T none v = T := rfl
theorem ev_tmp (T : Nat → Option AV) (t : Nat) : ev G T (.tmp t) = T t := rfl
theorem ev_const (T : Nat → Option AV) (v : Value) : ev G T (.const v) = valA v := rfl
theorem valA_bool (b : Bool) : valA (.bool b) = some (.bool b) := rfl
theorem valA_int (k : IntKind) (n : Int) : valA (.int k n) = some (.int k n) := rfl
theorem valA_nil : valA (.slice none 0 0) = some .nils := rfl
theorem valA_str (s : ByteArray) : valA (.string s) = some (.str s) := rfl
theorem valA_ptr : valA (.pointer none) = some .nilp := rfl
theorem thenQ_normal (K : St → Prop) (Q : Exit → St → Prop) (s : St) : thenQ K Q .normal s = K s := rfl
theorem thenQ_exit (K : St → Prop) (Q : Exit → St → Prop) (id : Nat) (s : St) : thenQ K Q (.exit id) s = Q (.exit id) s := rfl
theorem thenQ_ret (K : St → Prop) (Q : Exit → St → Prop) (s : St) : thenQ K Q .ret s = Q .ret s := rfl
theorem blockQ_normal (i : Nat) (Q : Exit → St → Prop) (s : St) : blockQ i Q .normal s = Q .normal s := rfl
theorem blockQ_ret (i : Nat) (Q : Exit → St → Prop) (s : St) : blockQ i Q .ret s = Q .ret s := rfl
theorem blockQ_exit (i j : Nat) (Q : Exit → St → Prop) (s : St) : blockQ i Q (.exit j) s = if j = i then Q .normal s else Q (.exit j) s := rfl
@[congr] theorem AWP_congr {c : Code} {Q : Exit → St → Prop} {st st' : St} (h : st = st') : AWP P G N c Q st = AWP P G N c Q st' := by rw [h]
@[congr] theorem runQ_congr {ops : Array Oper} {cw : List Nat} {hmf : List (Option Blk) → List (Option Blk)} {i slot slot' : Nat} {os : List Oper} {st st' : St} {Q : St → Prop} (h : st = st') (h' : slot = slot') : runQ P G ops cw hmf i slot os st Q = runQ P G ops cw hmf i slot' os st' Q := by rw [h, h']

/-- How many blocks a region makes. -/
def alN : List Oper → Nat
  | [] => 0
  | o :: os => (bif isAl o.op then 1 else 0) + alN os
theorem alB_alN (ops : Array Oper) : alB ops ops.size = alN ops.toList := by
  unfold alB
  rw [show ops.size = ops.toList.length by simp, List.take_length]
  induction ops.toList with
  | nil => rfl
  | cons o os ih =>
    simp only [alN, List.filter_cons]
    cases isAl o.op <;> simp [ih]
    omega

/-- The region rules as they are used: nones = what it makes. -/
theorem AWP.regS {id : Nat} {ops : List Oper} {draw : Bool} (cw : List Nat) {Q : Exit → St → Prop} {st : St} (hm : P.follows .mixedOrders = true) (hB : regB N ops.toArray cw draw = true) (hal : draw = false ∨ alN ops = 0)
    (h : runQ P G ops.toArray cw (fun H => H) 0 st.H.length ops ⟨st.T, st.H ++ List.replicate (alN ops) none, st.M⟩ (Q .normal)) : AWP P G N (.region id ops.toArray draw) Q st := by
  have e := alB_alN ops.toArray
  simp only [List.size_toArray] at e
  refine AWP.regionQ cw hm hB (by rcases hal with h | h; exact .inl h; exact .inr (by simp only [List.size_toArray]; rw [e]; exact h)) ?_
  simp only [List.size_toArray, e]
  exact h
theorem AWP.regT {id : Nat} {ops : List Oper} {draw : Bool} (cw : List Nat) {Q : Exit → St → Prop} {st : St} (hm : P.follows .mixedOrders = true) (hB : regB N ops.toArray cw draw = true)
    (h : runQ P G ops.toArray cw (fun H => H.take st.H.length) 0 st.H.length ops ⟨st.T, st.H ++ List.replicate (alN ops) none, st.M⟩ (Q .normal)) : AWP P G N (.region id ops.toArray draw) Q st := by
  have e := alB_alN ops.toArray
  simp only [List.size_toArray] at e
  refine AWP.regionM cw hm hB ?_
  simp only [List.size_toArray, e]
  exact h

section rules
variable {ops : Array Oper} {cw : List Nat} {hmf : List (Option Blk) → List (Option Blk)} {i slot : Nat} {d : Option Tmp} {ty : TypeId} {pos : String} {aft : Array Edge} {gd : Option (Nat × Bool)} {st : St} {Q : St → Prop}

theorem runQ_nil : runQ P G ops cw hmf i slot [] st Q = Q st := rfl
/-- An operation without a guard. -/
theorem runQ_cons {op : Op} {os : List Oper} : runQ P G ops cw hmf i slot (⟨d, op, ty, pos, aft, none⟩ :: os) st Q = doQ P G cw hmf i slot ⟨d, op, ty, pos, aft, none⟩ st fun st' => runQ P G ops cw hmf (i + 1) (bif isAl op then slot + 1 else slot) os st' Q := by
  simp only [runQ, stepQ]
  cases isAl op <;> rfl
theorem runQ_guard {op : Op} {os : List Oper} {j : Nat} {b : Bool} : runQ P G ops cw hmf i slot (⟨d, op, ty, pos, aft, some (j, b)⟩ :: os) st Q = Ob (wantA ops st.T ⟨d, op, ty, pos, aft, some (j, b)⟩) fun w =>
    (w = false → runQ P G ops cw hmf (i + 1) (bif isAl op then slot + 1 else slot) os ⟨put st.T d (.tup []), st.H, st.M⟩ Q) ∧ (w = true → doQ P G cw hmf i slot ⟨d, op, ty, pos, aft, some (j, b)⟩ st fun st' => runQ P G ops cw hmf (i + 1) (bif isAl op then slot + 1 else slot) os st' Q) := by
  simp only [runQ, stepQ]
  cases isAl op <;> rfl

theorem doQ_move {x : Operand} : doQ P G cw hmf i slot ⟨d, .move x, ty, pos, aft, gd⟩ st Q = Ob (ev G st.T x) fun v => Q ⟨put st.T d v, st.H, st.M⟩ := by
  simp only [doQ, isWr, evO, Bool.false_eq_true, if_false]
  cases ev G st.T x <;> simp [Ob, setH]
theorem doQ_assign {x : Operand} : doQ P G cw hmf i slot ⟨d, .assign x, ty, pos, aft, gd⟩ st Q = Ob (ev G st.T x) fun v => Q ⟨put st.T d v, st.H, st.M⟩ := by
  simp only [doQ, isWr, evO, Bool.false_eq_true, if_false]
  cases ev G st.T x <;> simp [Ob, setH]
theorem doQ_binOp {op : BinOp} {t u : TypeId} {x y : Operand} : doQ P G cw hmf i slot ⟨d, .binOp op t x y u, ty, pos, aft, gd⟩ st Q = Ob (ev G st.T x) fun a => Ob (ev G st.T y) fun b => Ob (binT P op t a b) fun p => p.1 ∧ Q ⟨put st.T d p.2, st.H, st.M⟩ := by
  simp only [doQ, isWr, evO, Bool.false_eq_true, if_false]
  cases ev G st.T x <;> cases ev G st.T y <;> simp [Ob]
  rename_i a b
  cases binT P op t a b <;> simp [setH]
theorem doQ_unOp {op : UnOp} {t : TypeId} {x : Operand} : doQ P G cw hmf i slot ⟨d, .unOp op t x, ty, pos, aft, gd⟩ st Q = Ob (ev G st.T x) fun a => (match op, a with
    | .not, .bool b => Q ⟨put st.T d (.bool (!b)), st.H, st.M⟩
    | .neg, .int k n => (arI k (0 - n)).1 ∧ Q ⟨put st.T d (arI k (0 - n)).2, st.H, st.M⟩
    | _, _ => False) := by
  simp only [doQ, isWr, evO, Bool.false_eq_true, if_false]
  cases ev G st.T x with
  | none => cases op <;> simp [Ob]
  | some a => cases op <;> cases a <;> simp [Ob, setH]
def asB : AV → Option Bool
  | .bool b => some b
  | _ => none
theorem asB_bool (b : Bool) : asB (.bool b) = some b := rfl
theorem doQ_pick {x y z : Operand} : doQ P G cw hmf i slot ⟨d, .pick x y z, ty, pos, aft, gd⟩ st Q = Ob ((ev G st.T x).bind asB) fun b => Ob (ev G st.T y) fun a => Ob (ev G st.T z) fun c => Q ⟨put st.T d (pickA b a c), st.H, st.M⟩ := by
  simp only [doQ, isWr, evO, Bool.false_eq_true, if_false]
  cases ev G st.T x with
  | none => simp [Ob]
  | some a => cases a <;> cases ev G st.T y <;> cases ev G st.T z <;> simp [Ob, setH, asB]
theorem doQ_nilCheck {x : Operand} : doQ P G cw hmf i slot ⟨d, .nilCheck x, ty, pos, aft, gd⟩ st Q = Ob (ev G st.T x) fun a => (match a with
    | .ptr _ _ _ _ | .rptr _ | .fn _ _ => Q ⟨put st.T d a, st.H, st.M⟩
    | _ => False) := by
  simp only [doQ, isWr, evO, Bool.false_eq_true, if_false]
  cases ev G st.T x with
  | none => simp [Ob]
  | some a => cases a <;> simp [Ob, setH]
theorem doQ_extract {x : Operand} {k : Nat} : doQ P G cw hmf i slot ⟨d, .extract x k, ty, pos, aft, gd⟩ st Q = Ob (ev G st.T x) fun a => (match a with
    | .tup vs => Ob vs[k]? fun v => Q ⟨put st.T d v, st.H, st.M⟩
    | _ => False) := by
  simp only [doQ, isWr, evO, Bool.false_eq_true, if_false]
  cases ev G st.T x with
  | none => simp [Ob]
  | some a =>
    cases a <;> simp [Ob]
    rename_i vs
    cases vs[k]? <;> simp [setH]
theorem doQ_convert {s t : TypeId} {x : Operand} : doQ P G cw hmf i slot ⟨d, .convert s t x, ty, pos, aft, gd⟩ st Q = Ob (ev G st.T x) fun a => Ob (evO P (fun _ => some a) [] 0 (.convert s t (.tmp 0))) fun p => Q ⟨put st.T d p.2.1, st.H, st.M⟩ := by
  simp only [doQ, isWr, evO, Bool.false_eq_true, if_false]
  cases ev G st.T x with
  | none => cases P.underlying s <;> cases P.underlying t <;> simp [Ob] <;> split <;> simp_all
  | some a =>
    simp only [Ob]
    cases P.underlying s with
    | none => simp
    | some ds =>
      cases P.underlying t with
      | none => simp
      | some dt => cases dt <;> cases a <;> simp [setH]
theorem doQ_fieldAddr {s : TypeId} {x : Operand} {f : Nat} : doQ P G cw hmf i slot ⟨d, .fieldAddr s x f, ty, pos, aft, gd⟩ st Q = Ob (flI P s f) fun l => Ob (ev G st.T x) fun a => (match a with
    | .ptr id s i j => Q ⟨put st.T d (.ptr id s i (j + l.1)), st.H, st.M⟩
    | .rptr cs => Q ⟨put st.T d (.rptr (cs.drop l.1)), st.H, st.M⟩
    | _ => False) := by
  simp only [doQ, isWr, evO, Bool.false_eq_true, if_false]
  cases flI P s f with
  | none => simp [Ob]
  | some l => cases ev G st.T x with
    | none => simp [Ob]
    | some a => cases a <;> simp [Ob, setH]
theorem doQ_field {s : TypeId} {x : Operand} {f : Nat} : doQ P G cw hmf i slot ⟨d, .field s x f, ty, pos, aft, gd⟩ st Q = Ob (flI P s f) fun l => Ob (ev G st.T x) fun a => (match a with
    | .agg cs => (rdC l.2 (cs.drop l.1)).1 ∧ Q ⟨put st.T d (rdC l.2 (cs.drop l.1)).2, st.H, st.M⟩
    | _ => False) := by
  simp only [doQ, isWr, evO, Bool.false_eq_true, if_false]
  cases flI P s f with
  | none => simp [Ob]
  | some l => cases ev G st.T x with
    | none => simp [Ob]
    | some a => cases a <;> simp [Ob, setH]
/-- An element's address. -/
def ixQ (l : Option Nat × Nat) (a : AV) (n : Int) (K : AV → Prop) : Prop := match l.1, a with
  | none, .sl id s off len _ => l.2 = s ∧ (0 ≤ n ∧ n < len) ∧ K (.ptr id s (off + n.toNat) 0)
  | none, .ro s rows => l.2 = s ∧ (0 ≤ n ∧ n < rows.length) ∧ K (.rptr (rows.getD n.toNat []))
  | some k, .ptr id s i j => (0 ≤ n ∧ n < k) ∧ K (.ptr id s i (j + n.toNat * l.2))
  | some k, .rptr cs => (0 ≤ n ∧ n < k) ∧ K (.rptr (cs.drop (n.toNat * l.2)))
  | _, _ => False
def asI : AV → Option Int
  | .int _ n => some n
  | _ => none
theorem asI_int (k : IntKind) (n : Int) : asI (.int k n) = some n := rfl
theorem doQ_indexAddr {t : TypeId} {x y : Operand} : doQ P G cw hmf i slot ⟨d, .indexAddr t x y, ty, pos, aft, gd⟩ st Q = Ob (ixI P t) fun l => Ob (ev G st.T x) fun a => Ob ((ev G st.T y).bind asI) fun n => ixQ l a n fun v => Q ⟨put st.T d v, st.H, st.M⟩ := by
  simp only [doQ, isWr, evO, Bool.false_eq_true, if_false]
  cases ixI P t with
  | none => simp [Ob]
  | some l =>
    obtain ⟨l1, es⟩ := l
    cases ev G st.T x with
    | none => cases l1 <;> simp [Ob]
    | some a => cases ev G st.T y with
      | none => cases l1 <;> cases a <;> simp [Ob]
      | some b =>
        cases l1 with
        | none =>
          cases a with
          | ro s rows =>
            cases b <;> simp [Ob, asI, ixQ]
            by_cases h : es = s <;> simp [h, setH]
          | sl i s o l m =>
            cases b <;> simp [Ob, asI, ixQ]
            by_cases h : es = s <;> simp [h, setH]
          | _ => cases b <;> simp [Ob, setH, asI, ixQ]
        | some k => cases a <;> cases b <;> simp [Ob, setH, asI, ixQ]
/-- What is loaded. -/
def ldQ (l : Option Nat) (a : AV) (H : List (Option Blk)) (K : AV → Prop) : Prop := match a with
  | .rptr cs => (rdC l cs).1 ∧ K (rdC l cs).2
  | .ptr id s i j => match H[id]? with
    | some (some b) => b.s = s ∧ i < b.rows.length ∧ (rdC l ((b.rows.getD i []).drop j)).1 ∧ K (rdC l ((b.rows.getD i []).drop j)).2
    | _ => False
  | _ => False
theorem doQ_load {t : TypeId} {x : Operand} : doQ P G cw hmf i slot ⟨d, .load t x, ty, pos, aft, gd⟩ st Q = Ob (ldI P t) fun l => Ob (ev G st.T x) fun a => ldQ l a (hmf st.H) fun v => Q ⟨put st.T d v, st.H, st.M⟩ := by
  simp only [doQ, isWr, evO, Bool.false_eq_true, if_false]
  cases ldI P t with
  | none => simp [Ob]
  | some l => cases ev G st.T x with
    | none => simp [Ob]
    | some a =>
      cases a <;> simp [Ob, setH, ldQ]
      rename_i id s i j
      cases (hmf st.H)[id]? with
      | none => simp
      | some b => cases b with
        | none => simp
        | some b => by_cases h : b.s = s <;> simp [h, and_assoc]
theorem doQ_alloc {t : TypeId} : doQ P G cw hmf i slot ⟨d, .alloc t, ty, pos, aft, gd⟩ st Q = Ob (zrI P t) fun z => st.H[slot]? = some none ∧ Q ⟨put st.T d (.ptr slot z.length 0 0), st.H.set slot (some ⟨z.length, [z]⟩), st.M⟩ := by
  simp only [doQ, isWr, evO, Bool.false_eq_true, if_false, isAl]
  cases zrI P t <;> simp [Ob, setH]
theorem doQ_box {t : TypeId} {x : Operand} : doQ P G cw hmf i slot ⟨d, .box t x, ty, pos, aft, gd⟩ st Q = Ob ((ev G st.T x).bind cellsQ) fun cs => st.H[slot]? = some none ∧ Q ⟨put st.T d (.ptr slot cs.length 0 0), st.H.set slot (some ⟨cs.length, [cs]⟩), st.M⟩ := by
  simp only [doQ, isWr, evO, Bool.false_eq_true, if_false, isAl]
  cases (ev G st.T x).bind cellsQ <;> simp [Ob, setH]
theorem doQ_makeSlice {t : TypeId} {x y : Operand} : doQ P G cw hmf i slot ⟨d, .makeSlice t x y, ty, pos, aft, gd⟩ st Q = Ob (elI P t) fun e => Ob ((ev G st.T x).bind asI) fun l => Ob ((ev G st.T y).bind asI) fun c =>
    0 < e.1 ∧ (0 ≤ l ∧ l ≤ c ∧ e.2.1 * c ≤ 140737488355328 ∧ c ≤ 140737488355328) ∧ st.H[slot]? = some none ∧ Q ⟨put st.T d (.sl slot e.1 0 l.toNat c.toNat), st.H.set slot (some ⟨e.1, List.replicate c.toNat e.2.2⟩), st.M⟩ := by
  simp only [doQ, isWr, evO, Bool.false_eq_true, if_false, isAl]
  cases elI P t with
  | none => simp [Ob]
  | some e =>
    obtain ⟨es, by_, z⟩ := e
    cases ev G st.T x with
    | none => simp [Ob]
    | some a => cases ev G st.T y with
      | none => cases a <;> simp [Ob, asI]
      | some b =>
        cases a <;> cases b <;> simp [Ob, asI]
        by_cases h : 0 < es <;> simp [h, setH]
theorem doQ_buildSlice {t : TypeId} {n : Nat} {ps : Array (Nat × Operand)} : doQ P G cw hmf i slot ⟨d, .buildSlice t n ps, ty, pos, aft, gd⟩ st Q = Ob (elI P t) fun e => Ob (partsA (ev G st.T) ps) fun l => (n * e.1 ≤ 1024 ∧ 0 < n ∧ 0 < e.1) ∧
    Ob (fillG (fun i => some (i * e.1, e.1)) (List.replicate n e.2.2).flatten l) fun cs => st.H[slot]? = some none ∧ Q ⟨put st.T d (.sl slot e.1 0 n n), st.H.set slot (some ⟨e.1, (List.range n).map fun i => (cs.drop (i * e.1)).take e.1⟩), st.M⟩ := by
  simp only [doQ, isWr, evO, Bool.false_eq_true, if_false, isAl]
  cases elI P t with
  | none => simp [Ob]
  | some e =>
    obtain ⟨es, by_, z⟩ := e
    cases partsA (ev G st.T) ps with
    | none => simp [Ob]
    | some l =>
      by_cases h : n * es ≤ 1024 ∧ 0 < n ∧ 0 < es
      · simp only [Ob, if_pos h]
        cases fillG (fun i => some (i * es, es)) (List.replicate n z).flatten l <;> simp [h, setH]
      · simp [Ob, if_neg h]
        simp_all
theorem doQ_build {t : TypeId} {ps : Array (Nat × Operand)} : doQ P G cw hmf i slot ⟨d, .build t ps, ty, pos, aft, gd⟩ st Q = Ob (evO P (ev G st.T) (hmf st.H) slot (.build t ps)) fun p => p.1 ∧ (p.2.2.isNone = true) ∧ Q ⟨put st.T d p.2.1, setH st.H slot p.2.2, st.M⟩ := by
  simp only [doQ, isWr, Bool.false_eq_true, if_false, isAl]
  cases evO P (ev G st.T) (hmf st.H) slot (.build t ps) <;> simp [Ob]
theorem doQ_slice {t : TypeId} {x : Operand} {lo hi mx : Option Operand} : doQ P G cw hmf i slot ⟨d, .slice t x lo hi mx, ty, pos, aft, gd⟩ st Q = Ob (evO P (ev G st.T) (hmf st.H) slot (.slice t x lo hi mx)) fun p => p.1 ∧ p.2.2.isNone = true ∧ Q ⟨put st.T d p.2.1, setH st.H slot p.2.2, st.M⟩ := by
  simp only [doQ, isWr, Bool.false_eq_true, if_false, isAl]
  cases evO P (ev G st.T) (hmf st.H) slot (.slice t x lo hi mx) <;> simp [Ob]
theorem doQ_makeFunc {f : FuncId} {cap : List Operand} : doQ P G cw hmf i slot ⟨d, .makeFunc (.func f) #[] cap.toArray, ty, pos, aft, gd⟩ st Q = Ob (cap.mapM (ev G st.T)) fun vs => Q ⟨put st.T d (.fn f vs), st.H, st.M⟩ := by
  simp only [doQ, isWr, evO, Bool.false_eq_true, if_false, isAl]
  cases cap.mapM (ev G st.T) <;> simp [Ob, setH]
theorem killK_nil (v : AV) : killK [] v = v := by unfold killK; induction refs v <;> simp_all
theorem killKT_nil (T : Nat → Option AV) : killKT [] T = T := by funext t; simp only [killKT]; cases T t <;> simp [killK_nil]
theorem doQ_store {t : TypeId} {x y : Operand} : doQ P G cw hmf i slot ⟨d, .store t x y, ty, pos, aft, gd⟩ st Q = Ob (szI P t) fun n => Ob (ev G st.T x) fun p => Ob ((ev G st.T y).bind cellsQ) fun cs => (match p with
    | .ptr id s i j => (match st.H[id]? with
      | some (some b) => (b.s = s ∧ cs.length = n) ∧ (i < b.rows.length ∧ j + n ≤ (b.rows.getD i []).length) ∧ Q ⟨put st.T d (.tup []), st.H.set id (some ⟨s, b.rows.set i (spl (b.rows.getD i []) j cs)⟩), st.M⟩
      | _ => False)
    | _ => False) := by
  simp only [doQ, isWr, evW, if_true, isApp]
  cases szI P t with
  | none => simp [Ob]
  | some n => cases ev G st.T x with
    | none => simp [Ob]
    | some p => cases hq : (ev G st.T y).bind cellsQ with
      | none => cases p <;> simp [Ob]
      | some cs =>
        cases p <;> simp [Ob]
        rename_i id s i j
        cases st.H[id]? with
        | none => simp
        | some b => cases b with
          | none => simp
          | some b =>
            by_cases h : b.s = s ∧ cs.length = n
            · have e : killKT [] st.T = st.T := killKT_nil _
              simp [h, e, and_assoc]
            · simp only [if_neg h]; simp; intro h1 h2; exact absurd ⟨h1, h2⟩ h
/-- A built-in function that writes nothing. -/
theorem doQ_bi {b : Builtin} {args : Array Operand} {tys : Array TypeId} (hb : isWr cw i (.call { callee := .builtin b, args := args, argTypes := tys }) = false) : doQ P G cw hmf i slot ⟨d, .call { callee := .builtin b, args := args, argTypes := tys }, ty, pos, aft, gd⟩ st Q =
    Ob (evB P (ev G st.T) b args.toList tys.toList) fun p => p.1 ∧ (p.2.2.isNone = true ∨ isAl (.call { callee := .builtin b, args := args, argTypes := tys }) = true ∧ st.H[slot]? = some none) ∧ Q ⟨put st.T d p.2.1, setH st.H slot p.2.2, st.M⟩ := by
  simp only [doQ, hb, Bool.false_eq_true, if_false, evO]
theorem doQ_len {x : Operand} {t : TypeId} : doQ P G cw hmf i slot ⟨d, .call { callee := .builtin .len, args := #[x], argTypes := #[t] }, ty, pos, aft, gd⟩ st Q = Ob (P.underlying t) fun u => Ob (ev G st.T x) fun a => Ob (lenA a) fun n => (match u, a with
    | .string, .str _ => Q ⟨put st.T d (.int .i64 n), st.H, st.M⟩
    | .slice _, .str _ => False
    | .slice _, _ => Q ⟨put st.T d (.int .i64 n), st.H, st.M⟩
    | _, _ => False) := by
  rw [doQ_bi rfl]
  simp only [evB]
  cases P.underlying t with
  | none => simp [Ob]
  | some u => cases ev G st.T x with
    | none => cases u <;> simp [Ob]
    | some a => cases hl : lenA a with
      | none => cases u <;> simp [Ob, hl]
      | some n => cases u <;> cases a <;> simp [Ob, hl, setH]
theorem doQ_min {x y : Operand} {ts : Array TypeId} : doQ P G cw hmf i slot ⟨d, .call { callee := .builtin .min, args := #[x, y], argTypes := ts }, ty, pos, aft, gd⟩ st Q = Ob (ev G st.T x) fun a => Ob (ev G st.T y) fun b => (match a, b with
    | .int k a, .int _ b => Q ⟨put st.T d (.int k (if b < a then b else a)), st.H, st.M⟩
    | _, _ => False) := by
  rw [doQ_bi rfl]
  simp only [evB]
  cases ev G st.T x with
  | none => simp [Ob]
  | some a => cases ev G st.T y with
    | none => cases a <;> simp [Ob]
    | some b => cases a <;> cases b <;> simp [Ob, setH]
theorem doQ_max {x y : Operand} {ts : Array TypeId} : doQ P G cw hmf i slot ⟨d, .call { callee := .builtin .max, args := #[x, y], argTypes := ts }, ty, pos, aft, gd⟩ st Q = Ob (ev G st.T x) fun a => Ob (ev G st.T y) fun b => (match a, b with
    | .int k a, .int _ b => Q ⟨put st.T d (.int k (if b > a then b else a)), st.H, st.M⟩
    | _, _ => False) := by
  rw [doQ_bi rfl]
  simp only [evB]
  cases ev G st.T x with
  | none => simp [Ob]
  | some a => cases ev G st.T y with
    | none => cases a <;> simp [Ob]
    | some b => cases a <;> cases b <;> simp [Ob, setH]
theorem doQ_wbi {b : Builtin} {args : Array Operand} {tys : Array TypeId} (hb : isWr cw i (.call { callee := .builtin b, args := args, argTypes := tys }) = true) : doQ P G cw hmf i slot ⟨d, .call { callee := .builtin b, args := args, argTypes := tys }, ty, pos, aft, gd⟩ st Q =
    Ob (evWB P (ev G st.T) st.H slot b args.toList tys.toList) fun p => p.1 ∧ (isApp (.call { callee := .builtin b, args := args, argTypes := tys }) = false ∨ st.H[slot]? = some none) ∧ Q ⟨put (killKT p.2.2.2.toList st.T) d p.2.1, p.2.2.1, p.2.2.2.toList ++ st.M⟩ := by
  simp only [doQ, hb, if_true, evW]
theorem doQ_call {x : Operand} {args : Array Operand} {tys : Array TypeId} : doQ P G cw hmf i slot ⟨d, .call { callee := .value x, args := args, argTypes := tys }, ty, pos, aft, gd⟩ st Q = Ob (callA (ev G st.T) x args.toList) fun fa =>
      if cw.contains i then EffQ P G fa.1 fa.2 st.H fun v H' Ks => Q ⟨put (killKT Ks st.T) d v, H', Ks ++ st.M⟩
      else PureQ P G fa.1 fa.2 (hmf st.H) fun v => Q ⟨put st.T d v, st.H, st.M⟩ := rfl
end rules
end
end Go.Aw

/- For the proofs: a whole body by computation; loops stay. -/
set_option linter.unusedVariables false
set_option linter.unusedSimpArgs false
namespace Go.Aw
open Go

/-- Each region's own list of calls that write. -/
abbrev CwOf := List (Nat × List Nat × Nat)
def cwGet (cs : CwOf) (i : Nat) : List Nat := match cs with
  | [] => []
  | (j, l, _) :: cs => if i = j then l else cwGet cs i
/-- How many blocks a region makes. -/
def alGet (cs : CwOf) (i : Nat) : Nat := match cs with
  | [] => 0
  | (j, _, n) :: cs => if i = j then n else alGet cs i

def chkC (N : Nat) (cs : CwOf) : Code → Bool
  | .region id ops draw => regB N ops (cwGet cs id) draw && alN ops.toList == alGet cs id
  | .seq a b => chkC N cs a && chkC N cs b
  | .cond _ a b => chkC N cs a && chkC N cs b
  | .block _ a => chkC N cs a
  | _ => true

def hmfC (b : Bool) (n : Nat) : List (Option Blk) → List (Option Blk) := if b then fun H => H.take n else fun H => H

def wpC (P : Program) (G : Glob) (N : Nat) (cs : CwOf) : Code → (Exit → St → Prop) → St → Prop
  | .skip, Q, st => Q .normal st
  | .exit i, Q, st => Q (.exit i) st
  | .goto i, Q, st => Q (.goto i) st
  | .ret, Q, st => Q .ret st
  | .label _, Q, st => Q .normal st
  | .seq a b, Q, st => wpC P G N cs a (thenQ (wpC P G N cs b Q) Q) st
  | .cond c a b, Q, st => Ob ((ev G st.T c).bind asB) fun v => (v = true → wpC P G N cs a Q st) ∧ (v = false → wpC P G N cs b Q st)
  | .block i a, Q, st => wpC P G N cs a (blockQ i Q) st
  | .region id ops draw, Q, st => runQ P G ops (cwGet cs id) (hmfC (draw && alGet cs id != 0) st.H.length) 0 st.H.length ops.toList ⟨st.T, st.H ++ List.replicate (alGet cs id) none, st.M⟩ (Q .normal)
  | c, Q, st => AWP P G N c Q st

theorem wpC.sound {P : Program} {G : Glob} {N : Nat} {cs : CwOf} (hm : P.follows .mixedOrders = true) : ∀ {c : Code} {Q : Exit → St → Prop} {st : St}, chkC N cs c = true → wpC P G N cs c Q st → AWP P G N c Q st
  | .skip, _, _, _, h => .skip h
  | .exit _, _, _, _, h => .exit h
  | .goto _, _, _, _, h => .goto h
  | .ret, _, _, _, h => .ret h
  | .label _, _, _, _, h => .label h
  | .seq a b, Q, st, hc, h => by
    simp only [chkC, Bool.and_eq_true] at hc
    refine AWP.seq ((wpC.sound hm hc.1 h).post fun e s hq => ⟨s, Imp.refl s, ?_⟩)
    cases e <;> simp only [thenQ] at hq ⊢
    case normal => exact wpC.sound hm hc.2 hq
    all_goals exact hq
  | .cond c a b, Q, st, hc, h => by
    simp only [chkC, Bool.and_eq_true] at hc
    simp only [wpC] at h
    cases he : ev G st.T c with
    | none => simp [he, Ob] at h
    | some x =>
      cases x <;> simp [he, Ob, asB] at h
      exact AWP.cond he (fun hb => wpC.sound hm hc.1 (h.1 hb)) fun hb => wpC.sound hm hc.2 (h.2 hb)
  | .block i a, Q, st, hc, h => AWP.block (wpC.sound hm (c := a) hc h)
  | .region id ops draw, Q, st, hc, h => by
    obtain ⟨ops⟩ := ops
    simp only [chkC, Bool.and_eq_true, beq_iff_eq] at hc
    obtain ⟨hc, hal⟩ := hc
    simp only [wpC, hmfC, ← hal] at h
    by_cases hd : draw = true ∧ alN ops ≠ 0
    · have : (draw && alN ops != 0) = true := by simp [hd]
      simp only [this, if_true] at h
      exact AWP.regT _ hm hc h
    · have : (draw && alN ops != 0) = false := by
        rcases draw with _ | _ <;> simp_all
      simp only [this, Bool.false_eq_true, if_false] at h
      refine AWP.regS _ hm hc ?_ h
      rcases draw with _ | _
      · exact .inl rfl
      · exact .inr (by simpa using hd)
  | .loop _, _, _, _, h => h
  | .rangeFunc .., _, _, _, h => h
  | .scope .., _, _, _, h => h
  | .refuse .., _, _, _, h => h

section
variable {P : Program} {G : Glob} {N : Nat} {cs : CwOf}
theorem wpC_skip {Q : Exit → St → Prop} {st : St} : wpC P G N cs .skip Q st = Q .normal st := rfl
theorem wpC_exit {i : Nat} {Q : Exit → St → Prop} {st : St} : wpC P G N cs (.exit i) Q st = Q (.exit i) st := rfl
theorem wpC_goto {i : Nat} {Q : Exit → St → Prop} {st : St} : wpC P G N cs (.goto i) Q st = Q (.goto i) st := rfl
theorem wpC_ret {Q : Exit → St → Prop} {st : St} : wpC P G N cs .ret Q st = Q .ret st := rfl
theorem wpC_label {i : Nat} {Q : Exit → St → Prop} {st : St} : wpC P G N cs (.label i) Q st = Q .normal st := rfl
theorem wpC_seq {a b : Code} {Q : Exit → St → Prop} {st : St} : wpC P G N cs (.seq a b) Q st = wpC P G N cs a (thenQ (wpC P G N cs b Q) Q) st := rfl
theorem wpC_cond {c : Operand} {a b : Code} {Q : Exit → St → Prop} {st : St} : wpC P G N cs (.cond c a b) Q st = Ob ((ev G st.T c).bind asB) fun v => (v = true → wpC P G N cs a Q st) ∧ (v = false → wpC P G N cs b Q st) := rfl
theorem wpC_block {i : Nat} {a : Code} {Q : Exit → St → Prop} {st : St} : wpC P G N cs (.block i a) Q st = wpC P G N cs a (blockQ i Q) st := rfl
theorem wpC_region {id : Nat} {l : List Oper} {draw : Bool} {Q : Exit → St → Prop} {st : St} : wpC P G N cs (.region id l.toArray draw) Q st = runQ P G l.toArray (cwGet cs id) (hmfC (draw && alGet cs id != 0) st.H.length) 0 st.H.length l ⟨st.T, st.H ++ List.replicate (alGet cs id) none, st.M⟩ (Q .normal) := rfl
theorem wpC_loop {a : Code} {Q : Exit → St → Prop} {st : St} : wpC P G N cs (.loop a) Q st = AWP P G N (.loop a) Q st := rfl
theorem hmfC_false (n : Nat) : hmfC false n = fun H => H := rfl
theorem hmfC_true (n : Nat) : hmfC true n = fun H => H.take n := rfl
@[congr] theorem alN_congr (l : List Oper) : alN l = alN l := rfl
@[congr] theorem isAl_congr (o : Op) : isAl o = isAl o := rfl
@[congr] theorem wpC_congr {c : Code} {Q : Exit → St → Prop} {st st' : St} (h : st = st') : wpC P G N cs c Q st = wpC P G N cs c Q st' := by rw [h]
@[congr] theorem thenQ_congr {K : St → Prop} {Q : Exit → St → Prop} {e e' : Exit} {s s' : St} (he : e = e') (h : s = s') : thenQ K Q e s = thenQ K Q e' s' := by rw [he, h]
@[congr] theorem blockQ_congr {i : Nat} {Q : Exit → St → Prop} {e e' : Exit} {s s' : St} (he : e = e') (h : s = s') : blockQ i Q e s = blockQ i Q e' s' := by rw [he, h]
@[congr] theorem doQ_congr {cw : List Nat} {hmf : List (Option Blk) → List (Option Blk)} {i slot slot' : Nat} {o : Oper} {st st' : St} {Q : St → Prop} (h : st = st') (h' : slot = slot') : doQ P G cw hmf i slot o st Q = doQ P G cw hmf i slot' o st' Q := by rw [h, h']
@[congr] theorem ldQ_congr {l l' : Option Nat} {a a' : AV} {H H' : List (Option Blk)} {K : AV → Prop} (h1 : l = l') (h2 : a = a') (h3 : H = H') : ldQ l a H K = ldQ l' a' H' K := by rw [h1, h2, h3]
@[congr] theorem ixQ_congr {l l' : Option Nat × Nat} {a a' : AV} {n n' : Int} {K : AV → Prop} (h1 : l = l') (h2 : a = a') (h3 : n = n') : ixQ l a n K = ixQ l' a' n' K := by rw [h1, h2, h3]

theorem ixQ_ro {s : Nat} {rows : List (List AV)} {n : Int} {K : AV → Prop} : ixQ (none, s) (.ro s rows) n K = ((0 ≤ n ∧ n < rows.length) ∧ K (.rptr (rows.getD n.toNat []))) := by simp [ixQ]
theorem ixQ_sl {s id off len m : Nat} {n : Int} {K : AV → Prop} : ixQ (none, s) (.sl id s off len m) n K = ((0 ≤ n ∧ n < len) ∧ K (.ptr id s (off + n.toNat) 0)) := by simp [ixQ]
theorem ixQ_ptr {k e id s i j : Nat} {n : Int} {K : AV → Prop} : ixQ (some k, e) (.ptr id s i j) n K = ((0 ≤ n ∧ n < k) ∧ K (.ptr id s i (j + n.toNat * e))) := by simp [ixQ]
theorem ldQ_rptr {l : Option Nat} {cs : List AV} {H : List (Option Blk)} {K : AV → Prop} : ldQ l (.rptr cs) H K = ((rdC l cs).1 ∧ K (rdC l cs).2) := rfl

theorem argT_nil (t : Nat) : argT [] t = none := rfl
theorem argT_cons (a : AV) (l : List AV) (t : Nat) : argT (a :: l) t = if t = 0 then some a else argT l (t - 1) := by
  cases t <;> simp [argT]

theorem EndQ_ret {rs : List ResultVar} {K : AV → St → Prop} {s : St} : EndQ P G rs K .ret s = retL P G s.T s.H rs fun vs => K (retV vs) s := rfl
theorem EndQ_normal {rs : List ResultVar} {K : AV → St → Prop} {s : St} : EndQ P G rs K .normal s = retL P G s.T s.H rs fun vs => K (retV vs) s := rfl
theorem retL_nil {T : Nat → Option AV} {H : List (Option Blk)} {K : List AV → Prop} : retL P G T H [] K = K [] := rfl
theorem retL_tmp {T : Nat → Option AV} {H : List (Option Blk)} {t : Nat} {rs : List ResultVar} {K : List AV → Prop} : retL P G T H (.tmp t :: rs) K = Ob (T t) fun v => retL P G T H rs fun vs => K (v :: vs) := rfl
@[congr] theorem retL_congr {T T' : Nat → Option AV} {H : List (Option Blk)} {rs : List ResultVar} {K : List AV → Prop} (h : T = T') : retL P G T H rs K = retL P G T' H rs K := by rw [h]
@[congr] theorem EndQ_congr {rs : List ResultVar} {K : AV → St → Prop} {e e' : Exit} {s s' : St} (h : e = e') (h' : s = s') : EndQ P G rs K e s = EndQ P G rs K e' s' := by rw [h, h']
theorem retV_one (v : AV) : retV [v] = v := rfl
theorem retV_two (v u : AV) : retV [v, u] = .tup [v, u] := rfl
theorem retV_three (v u x : AV) : retV [v, u, x] = .tup [v, u, x] := rfl
theorem retV_four (v u x y : AV) : retV [v, u, x, y] = .tup [v, u, x, y] := rfl
theorem retV_zero : retV [] = .tup [] := rfl
theorem binT_int {op : BinOp} {t : TypeId} {k k' : IntKind} {a b : Int} : binT P op t (.int k a) (.int k' b) = binA op (.int k a) (.int k' b) := rfl
theorem binT_str {op : BinOp} {t : TypeId} {a b : ByteArray} : binT P op t (.str a) (.str b) = binA op (.str a) (.str b) := rfl
theorem binT_bool {op : BinOp} {t : TypeId} {a b : Bool} (h : P.underlying t = some .bool) : binT P op t (.bool a) (.bool b) = binA op (.bool a) (.bool b) := by simp [binT, h]
theorem binA_add (k : IntKind) (a b : Int) : binA .add (.int k a) (.int k b) = some (arI k (a + b)) := by simp [binA]
theorem binA_sub (k : IntKind) (a b : Int) : binA .sub (.int k a) (.int k b) = some (arI k (a - b)) := by simp [binA]
theorem binA_mul (k : IntKind) (a b : Int) : binA .mul (.int k a) (.int k b) = some (arI k (a * b)) := by simp [binA]
theorem binA_quo (k : IntKind) (a b : Int) : binA .quo (.int k a) (.int k b) = some (b ≠ 0 ∧ (arI k (a.tdiv b)).1, (arI k (a.tdiv b)).2) := by simp [binA]
theorem binA_rem (k : IntKind) (a b : Int) : binA .rem (.int k a) (.int k b) = some (b ≠ 0, .int k (a.tmod b)) := by simp [binA]
theorem binA_eql (k : IntKind) (a b : Int) : binA .eql (.int k a) (.int k b) = some (True, .bool (decide (a = b))) := by simp [binA]
theorem binA_neq (k : IntKind) (a b : Int) : binA .neq (.int k a) (.int k b) = some (True, .bool (!decide (a = b))) := by simp [binA]
theorem binA_lss (k : IntKind) (a b : Int) : binA .lss (.int k a) (.int k b) = some (True, .bool (decide (a < b))) := by simp [binA]
theorem binA_leq (k : IntKind) (a b : Int) : binA .leq (.int k a) (.int k b) = some (True, .bool (decide (a ≤ b))) := by simp [binA]
theorem binA_gtr (k : IntKind) (a b : Int) : binA .gtr (.int k a) (.int k b) = some (True, .bool (decide (b < a))) := by simp [binA]
theorem binA_geq (k : IntKind) (a b : Int) : binA .geq (.int k a) (.int k b) = some (True, .bool (decide (b ≤ a))) := by simp [binA]
theorem binA_beq (a b : Bool) : binA .eql (.bool a) (.bool b) = some (True, .bool (a == b)) := rfl
theorem binA_bneq (a b : Bool) : binA .neq (.bool a) (.bool b) = some (True, .bool (!(a == b))) := rfl
theorem binA_seq (a b : ByteArray) : binA .eql (.str a) (.str b) = some (True, .bool (a.toList == b.toList)) := rfl
theorem binA_sneq (a b : ByteArray) : binA .neq (.str a) (.str b) = some (True, .bool (!(a.toList == b.toList))) := rfl
theorem arI_64 (n : Int) : arI .i64 n = (inI n, .int .i64 n) := rfl
theorem pickA_bool (x p q : Bool) : pickA x (.bool p) (.bool q) = .bool (bif x then p else q) := rfl
theorem pickA_int (x : Bool) (k k' : IntKind) (p q : Int) : pickA x (.int k p) (.int k' q) = bif x then .int k p else .int k' q := rfl
theorem lenA_ro (s : Nat) (rows : List (List AV)) : lenA (.ro s rows) = some rows.length := rfl
theorem lenA_sl (id s off len m : Nat) : lenA (.sl id s off len m) = some len := rfl
theorem lenA_nils : lenA .nils = some 0 := rfl
theorem lenA_str (s : ByteArray) : lenA (.str s) = some s.size := rfl
theorem rdC_none (cs : List AV) : rdC none cs = (0 < cs.length, cs.headD .junk) := rfl
theorem rdC_some (n : Nat) (cs : List AV) : rdC (some n) cs = (n ≤ cs.length, .agg (cs.take n)) := rfl
theorem cellsQ_int (k : IntKind) (n : Int) : cellsQ (.int k n) = some [.int k n] := rfl
theorem cellsQ_bool (b : Bool) : cellsQ (.bool b) = some [.bool b] := rfl
theorem cellsQ_str (b : ByteArray) : cellsQ (.str b) = some [.str b] := rfl
theorem cellsQ_sl (id s off len m : Nat) : cellsQ (.sl id s off len m) = some [.sl id s off len m] := rfl
theorem cellsQ_ro (s : Nat) (rows : List (List AV)) : cellsQ (.ro s rows) = some [.ro s rows] := rfl
theorem cellsQ_nils : cellsQ .nils = some [.nils] := rfl
theorem cellsQ_nilp : cellsQ .nilp = some [.nilp] := rfl
theorem cellsQ_ptr (id s i j : Nat) : cellsQ (.ptr id s i j) = some [.ptr id s i j] := rfl
theorem cellsQ_rptr (cs : List AV) : cellsQ (.rptr cs) = some [.rptr cs] := rfl
theorem cellsQ_agg (cs : List AV) : cellsQ (.agg cs) = some cs := rfl
theorem pickA_true (a b : AV) : pickA true a b = a := by cases a <;> cases b <;> rfl
theorem pickA_false (a b : AV) : pickA false a b = b := by cases a <;> cases b <;> rfl
/-- A guard looked at: the slot is then known. -/
def guardQ (v : AV) (b : Bool) (A B C : Prop) : Prop := match v with
  | .bool x => (x = b → A) ∧ (x = !b → B)
  | .tup [] => C
  | _ => False
@[congr] theorem guardQ_congr {v v' : AV} {b : Bool} {A B C : Prop} (h : v = v') : guardQ v b A B C = guardQ v' b A B C := by rw [h]
theorem guardQ_bool {x b : Bool} {A B C : Prop} : guardQ (.bool x) b A B C = ((x = b → A) ∧ (x = !b → B)) := rfl
theorem guardQ_tup {b : Bool} {A B C : Prop} : guardQ (.tup []) b A B C = C := rfl
theorem put_same {T : Nat → Option AV} {t : Nat} {v : AV} (h : T t = some v) : put T (some t) v = T := by
  funext k
  simp only [put]
  split
  · rename_i e; rw [e, h]
  · rfl
theorem runQ_gd {ops : Array Oper} {cw : List Nat} {hmf : List (Option Blk) → List (Option Blk)} {i slot : Nat} {d : Option Tmp} {ty : TypeId} {pos : String} {aft : Array Edge} {st : St} {Q : St → Prop} {op : Op} {os : List Oper} {j : Nat} {b : Bool} : runQ P G ops cw hmf i slot (⟨d, op, ty, pos, aft, some (j, b)⟩ :: os) st Q = Ob ((ops[j]?).bind (·.dst)) fun t => Ob (st.T t) fun v =>
    guardQ v b (doQ P G cw hmf i slot ⟨d, op, ty, pos, aft, some (j, b)⟩ ⟨put st.T (some t) (.bool b), st.H, st.M⟩ fun st' => runQ P G ops cw hmf (i + 1) (bif isAl op then slot + 1 else slot) os st' Q)
      (runQ P G ops cw hmf (i + 1) (bif isAl op then slot + 1 else slot) os ⟨put (put st.T (some t) (.bool !b)) d (.tup []), st.H, st.M⟩ Q)
      (runQ P G ops cw hmf (i + 1) (bif isAl op then slot + 1 else slot) os ⟨put st.T d (.tup []), st.H, st.M⟩ Q) := by
  rw [runQ_guard]
  simp only [wantA]
  cases h : (ops[j]?).bind (·.dst) with
  | none => simp [Ob]
  | some t =>
    simp only [Option.bind_some, Ob_some]
    cases hv : st.T t with
    | none => simp [Ob]
    | some v =>
      simp only [Ob_some]
      cases v with
      | bool x =>
        simp only [Ob_some, guardQ_bool]
        rcases x with _ | _ <;> rcases b with _ | _ <;> simp [put_same hv]
      | tup l => cases l <;> simp [guardQ, Ob]
      | _ => simp [guardQ, Ob]

/-- A struct that is built of parts. -/
def blI (P : Program) (t : TypeId) : Bool := match P.underlying t with
  | some (.struct fs) => fs.all fun f => (szI P f.type).isSome
  | _ => false
def partsL (ρ : Operand → Option AV) : List (Nat × Operand) → Option (List (Nat × AV))
  | [] => some []
  | (i, x) :: l => match ρ x, partsL ρ l with
    | some v, some r => some ((i, v) :: r)
    | _, _ => none
theorem partsA_L (ρ : Operand → Option AV) (ps : Array (Nat × Operand)) : partsA ρ ps = partsL ρ ps.toList := by
  unfold partsA
  induction ps.toList with
  | nil => rfl
  | cons p l ih =>
    obtain ⟨i, x⟩ := p
    simp only [List.mapM_cons, partsL, ih]
    cases ρ x <;> simp
    cases partsL ρ l <;> simp
theorem partsL_nil (ρ : Operand → Option AV) : partsL ρ [] = some [] := rfl
theorem partsL_cons {ρ : Operand → Option AV} {i : Nat} {x : Operand} {l : List (Nat × Operand)} {v : AV} {r : List (Nat × AV)} (h : ρ x = some v) (h' : partsL ρ l = some r) : partsL ρ ((i, x) :: l) = some ((i, v) :: r) := by simp [partsL, h, h']
/-- Parts of one cell each, laid one after the other. -/
def fillQ (place : Nat → Option (Nat × Nat)) (cells : List AV) : List (Nat × AV) → (List AV → Prop) → Prop
  | [], K => K cells
  | (f, v) :: rest, K => Ob (place f) fun p => Ob (cellsQ v) fun cs => (cs.length = p.2 ∧ p.1 + p.2 ≤ cells.length) ∧ fillQ place (spl cells p.1 cs) rest K
theorem fillG_Q {place : Nat → Option (Nat × Nat)} {K : List AV → Prop} : ∀ {l : List (Nat × AV)} {cells : List AV}, Ob (fillG place cells l) K = fillQ place cells l K
  | [], _ => rfl
  | (f, v) :: rest, cells => by
    simp only [fillG, fillQ]
    cases place f with
    | none => simp [Ob]
    | some p => cases cellsQ v with
      | none => simp [Ob]
      | some cs =>
        simp only [Ob_some]
        by_cases h : cs.length = p.2 ∧ p.1 + p.2 ≤ cells.length
        · rw [if_pos h, fillG_Q, eq_iff_iff]; exact ⟨fun k => ⟨h, k⟩, fun k => k.2⟩
        · rw [if_neg h, eq_iff_iff]; exact ⟨fun k => k.elim, fun k => absurd k.1 h⟩
theorem fillQ_nil {place : Nat → Option (Nat × Nat)} {cells : List AV} {K : List AV → Prop} : fillQ place cells [] K = K cells := rfl
theorem fillQ_cons {place : Nat → Option (Nat × Nat)} {cells : List AV} {f : Nat} {v : AV} {rest : List (Nat × AV)} {K : List AV → Prop} : fillQ place cells ((f, v) :: rest) K = Ob (place f) fun p => Ob (cellsQ v) fun cs => (cs.length = p.2 ∧ p.1 + p.2 ≤ cells.length) ∧ fillQ place (spl cells p.1 cs) rest K := rfl
@[congr] theorem fillQ_congr {place : Nat → Option (Nat × Nat)} {cells cells' : List AV} {l l' : List (Nat × AV)} {K : List AV → Prop} (h : cells = cells') (h' : l = l') : fillQ place cells l K = fillQ place cells' l' K := by rw [h, h']
/-- Rows cut off a row of cells. -/
def chunk (es : Nat) : Nat → List AV → List (List AV)
  | 0, _ => []
  | n + 1, cs => cs.take es :: chunk es n (cs.drop es)
theorem chunk_eq (es : Nat) : ∀ (n : Nat) (cs : List AV), (List.range n).map (fun i => (cs.drop (i * es)).take es) = chunk es n cs
  | 0, _ => rfl
  | n + 1, cs => by
    rw [List.range_succ_eq_map, List.map_cons, List.map_map, chunk, ← chunk_eq es n]
    congr 1
    · simp
    · apply List.map_congr_left
      intro i _
      simp [Nat.succ_mul, List.drop_drop, Nat.add_comm]
theorem doQ_buildF {cw : List Nat} {hmf : List (Option Blk) → List (Option Blk)} {i slot : Nat} {d : Option Tmp} {ty : TypeId} {pos : String} {aft : Array Edge} {gd : Option (Nat × Bool)} {st : St} {Q : St → Prop} {t : TypeId} {ps : Array (Nat × Operand)} (hb : blI P t = true) : doQ P G cw hmf i slot ⟨d, .build t ps, ty, pos, aft, gd⟩ st Q = Ob (zrI P t) fun z => Ob (partsL (ev G st.T) ps.toList) fun l => fillQ (fpI P t) z l fun cs => Q ⟨put st.T d (.agg cs), st.H, st.M⟩ := by
  rw [doQ_build]
  unfold blI at hb
  simp only [evO, partsA_L]
  cases hu : P.underlying t with
  | none => simp [hu] at hb
  | some ds =>
    cases ds <;> simp [hu] at hb
    rename_i fs
    cases zrI P t with
    | none => simp [Ob]
    | some z => cases partsL (ev G st.T) ps.toList with
      | none => simp [Ob]
      | some l =>
        have hb' : (fs.all fun f => (szI P f.type).isSome) = true := by simpa using hb
        simp only [Ob_some, hb', if_true, ← fillG_Q]
        cases fillG (fpI P t) z l <;> simp [Ob, setH]
theorem doQ_buildSliceF {cw : List Nat} {hmf : List (Option Blk) → List (Option Blk)} {i slot : Nat} {d : Option Tmp} {ty : TypeId} {pos : String} {aft : Array Edge} {gd : Option (Nat × Bool)} {st : St} {Q : St → Prop} {t : TypeId} {n : Nat} {ps : Array (Nat × Operand)} : doQ P G cw hmf i slot ⟨d, .buildSlice t n ps, ty, pos, aft, gd⟩ st Q = Ob (elI P t) fun e => Ob (partsL (ev G st.T) ps.toList) fun l => (n * e.1 ≤ 1024 ∧ 0 < n ∧ 0 < e.1) ∧
    fillQ (fun i => some (i * e.1, e.1)) (List.replicate n e.2.2).flatten l fun cs => st.H[slot]? = some none ∧ Q ⟨put st.T d (.sl slot e.1 0 n n), st.H.set slot (some ⟨e.1, chunk e.1 n cs⟩), st.M⟩ := by
  rw [doQ_buildSlice]
  simp only [partsA_L, fillG_Q, chunk_eq]

/-! ### Values taken apart -/
def nilQ (a : AV) (K : Prop) : Prop := match a with
  | .ptr _ _ _ _ | .rptr _ | .fn _ _ => K
  | _ => False
@[congr] theorem nilQ_congr {a a' : AV} {K : Prop} (h : a = a') : nilQ a K = nilQ a' K := by rw [h]
theorem nilQ_ptr {id s i j : Nat} {K : Prop} : nilQ (.ptr id s i j) K = K := rfl
theorem nilQ_rptr {cs : List AV} {K : Prop} : nilQ (.rptr cs) K = K := rfl
theorem nilQ_fn {f : FuncId} {cs : List AV} {K : Prop} : nilQ (.fn f cs) K = K := rfl
def faQ (n : Nat) (a : AV) (K : AV → Prop) : Prop := match a with
  | .ptr id s i j => K (.ptr id s i (j + n))
  | .rptr cs => K (.rptr (cs.drop n))
  | _ => False
@[congr] theorem faQ_congr {n n' : Nat} {a a' : AV} {K : AV → Prop} (h : n = n') (h' : a = a') : faQ n a K = faQ n' a' K := by rw [h, h']
theorem faQ_ptr {n id s i j : Nat} {K : AV → Prop} : faQ n (.ptr id s i j) K = K (.ptr id s i (j + n)) := rfl
theorem faQ_rptr {n : Nat} {cs : List AV} {K : AV → Prop} : faQ n (.rptr cs) K = K (.rptr (cs.drop n)) := rfl
def fdQ (l : Nat × Option Nat) (a : AV) (K : AV → Prop) : Prop := match a with
  | .agg cs => (rdC l.2 (cs.drop l.1)).1 ∧ K (rdC l.2 (cs.drop l.1)).2
  | _ => False
@[congr] theorem fdQ_congr {l l' : Nat × Option Nat} {a a' : AV} {K : AV → Prop} (h : l = l') (h' : a = a') : fdQ l a K = fdQ l' a' K := by rw [h, h']
theorem fdQ_agg {l : Nat × Option Nat} {cs : List AV} {K : AV → Prop} : fdQ l (.agg cs) K = ((rdC l.2 (cs.drop l.1)).1 ∧ K (rdC l.2 (cs.drop l.1)).2) := rfl
def exQ (a : AV) (k : Nat) (K : AV → Prop) : Prop := match a with
  | .tup vs => Ob vs[k]? K
  | _ => False
@[congr] theorem exQ_congr {a a' : AV} {k : Nat} {K : AV → Prop} (h' : a = a') : exQ a k K = exQ a' k K := by rw [h']
theorem exQ_tup {vs : List AV} {k : Nat} {K : AV → Prop} : exQ (.tup vs) k K = Ob vs[k]? K := rfl
def unQ (op : UnOp) (a : AV) (K : AV → Prop) : Prop := match op, a with
  | .not, .bool b => K (.bool (!b))
  | .neg, .int k n => (arI k (0 - n)).1 ∧ K (arI k (0 - n)).2
  | _, _ => False
@[congr] theorem unQ_congr {op : UnOp} {a a' : AV} {K : AV → Prop} (h' : a = a') : unQ op a K = unQ op a' K := by rw [h']
theorem unQ_not {b : Bool} {K : AV → Prop} : unQ .not (.bool b) K = K (.bool (!b)) := rfl
theorem unQ_neg {k : IntKind} {n : Int} {K : AV → Prop} : unQ .neg (.int k n) K = ((arI k (0 - n)).1 ∧ K (arI k (0 - n)).2) := rfl
def lenQ (u : TypeDesc) (a : AV) (K : Nat → Prop) : Prop := match u, a with
  | .string, .str s => K s.size
  | .slice _, .sl _ _ _ len _ => K len
  | .slice _, .ro _ rows => K rows.length
  | .slice _, .nils => K 0
  | _, _ => False
@[congr] theorem lenQ_congr {u u' : TypeDesc} {a a' : AV} {K : Nat → Prop} (h : u = u') (h' : a = a') : lenQ u a K = lenQ u' a' K := by rw [h, h']
theorem lenQ_str {b : ByteArray} {K : Nat → Prop} : lenQ .string (.str b) K = K b.size := rfl
theorem lenQ_sl {e : TypeId} {id s off len m : Nat} {K : Nat → Prop} : lenQ (.slice e) (.sl id s off len m) K = K len := rfl
theorem lenQ_ro {e : TypeId} {s : Nat} {rows : List (List AV)} {K : Nat → Prop} : lenQ (.slice e) (.ro s rows) K = K rows.length := rfl
theorem lenQ_nils {e : TypeId} {K : Nat → Prop} : lenQ (.slice e) .nils K = K 0 := rfl
def mmQ (a b : AV) (K : IntKind → Int → Int → Prop) : Prop := match a, b with
  | .int k a, .int _ b => K k a b
  | _, _ => False
@[congr] theorem mmQ_congr {a a' b b' : AV} {K : IntKind → Int → Int → Prop} (h : a = a') (h' : b = b') : mmQ a b K = mmQ a' b' K := by rw [h, h']
theorem mmQ_int {k k' : IntKind} {a b : Int} {K : IntKind → Int → Int → Prop} : mmQ (.int k a) (.int k' b) K = K k a b := rfl
section vrules
variable {cw : List Nat} {hmf : List (Option Blk) → List (Option Blk)} {i slot : Nat} {d : Option Tmp} {ty : TypeId} {pos : String} {aft : Array Edge} {gd : Option (Nat × Bool)} {st : St} {Q : St → Prop}
theorem doQ_nilCheckV {x : Operand} : doQ P G cw hmf i slot ⟨d, .nilCheck x, ty, pos, aft, gd⟩ st Q = Ob (ev G st.T x) fun a => nilQ a (Q ⟨put st.T d a, st.H, st.M⟩) := by
  rw [doQ_nilCheck]
  cases ev G st.T x with
  | none => rfl
  | some a => cases a <;> rfl
theorem doQ_fieldAddrV {s : TypeId} {x : Operand} {f : Nat} : doQ P G cw hmf i slot ⟨d, .fieldAddr s x f, ty, pos, aft, gd⟩ st Q = Ob (flI P s f) fun l => Ob (ev G st.T x) fun a => faQ l.1 a fun v => Q ⟨put st.T d v, st.H, st.M⟩ := by
  rw [doQ_fieldAddr]
  cases flI P s f with
  | none => rfl
  | some l => cases ev G st.T x with
    | none => rfl
    | some a => cases a <;> rfl
theorem doQ_fieldV {s : TypeId} {x : Operand} {f : Nat} : doQ P G cw hmf i slot ⟨d, .field s x f, ty, pos, aft, gd⟩ st Q = Ob (flI P s f) fun l => Ob (ev G st.T x) fun a => fdQ l a fun v => Q ⟨put st.T d v, st.H, st.M⟩ := by
  rw [doQ_field]
  cases flI P s f with
  | none => rfl
  | some l => cases ev G st.T x with
    | none => rfl
    | some a => cases a <;> rfl
theorem doQ_extractV {x : Operand} {k : Nat} : doQ P G cw hmf i slot ⟨d, .extract x k, ty, pos, aft, gd⟩ st Q = Ob (ev G st.T x) fun a => exQ a k fun v => Q ⟨put st.T d v, st.H, st.M⟩ := by
  rw [doQ_extract]
  cases ev G st.T x with
  | none => rfl
  | some a => cases a <;> rfl
theorem doQ_unOpV {op : UnOp} {t : TypeId} {x : Operand} : doQ P G cw hmf i slot ⟨d, .unOp op t x, ty, pos, aft, gd⟩ st Q = Ob (ev G st.T x) fun a => unQ op a fun v => Q ⟨put st.T d v, st.H, st.M⟩ := by
  rw [doQ_unOp]
  cases ev G st.T x with
  | none => rfl
  | some a => cases op <;> cases a <;> rfl
theorem doQ_lenV {x : Operand} {t : TypeId} : doQ P G cw hmf i slot ⟨d, .call { callee := .builtin .len, args := #[x], argTypes := #[t] }, ty, pos, aft, gd⟩ st Q = Ob (P.underlying t) fun u => Ob (ev G st.T x) fun a => lenQ u a fun n => Q ⟨put st.T d (.int .i64 n), st.H, st.M⟩ := by
  rw [doQ_len]
  cases P.underlying t with
  | none => rfl
  | some u => cases ev G st.T x with
    | none => rfl
    | some a => cases a <;> cases u <;> rfl
theorem doQ_minV {x y : Operand} {ts : Array TypeId} : doQ P G cw hmf i slot ⟨d, .call { callee := .builtin .min, args := #[x, y], argTypes := ts }, ty, pos, aft, gd⟩ st Q = Ob (ev G st.T x) fun a => Ob (ev G st.T y) fun b => mmQ a b fun k a b => Q ⟨put st.T d (.int k (if b < a then b else a)), st.H, st.M⟩ := by
  rw [doQ_min]
  cases ev G st.T x with
  | none => rfl
  | some a => cases ev G st.T y with
    | none => rfl
    | some b => cases a <;> cases b <;> rfl
theorem doQ_maxV {x y : Operand} {ts : Array TypeId} : doQ P G cw hmf i slot ⟨d, .call { callee := .builtin .max, args := #[x, y], argTypes := ts }, ty, pos, aft, gd⟩ st Q = Ob (ev G st.T x) fun a => Ob (ev G st.T y) fun b => mmQ a b fun k a b => Q ⟨put st.T d (.int k (if b > a then b else a)), st.H, st.M⟩ := by
  rw [doQ_max]
  cases ev G st.T x with
  | none => rfl
  | some a => cases ev G st.T y with
    | none => rfl
    | some b => cases a <;> cases b <;> rfl
end vrules

/-! ### Rows as they are written -/
theorem ixQ_map {α : Type} {d : α} {s : Nat} {a : List α} {f : α → List AV} {n : Int} {K : AV → Prop} : ixQ (none, s) (.ro s (a.map f)) n K = ((0 ≤ n ∧ n < a.length) ∧ K (.rptr (f (a.getD n.toNat d)))) := by
  rw [ixQ_ro, List.length_map, eq_iff_iff]
  refine and_congr_right fun h => ?_
  have : n.toNat < a.length := by omega
  rw [show (a.map f).getD n.toNat [] = f (a.getD n.toNat d) by simp [List.getD_eq_getElem?_getD, List.getElem?_eq_getElem this]]
def rowsR {α : Type} (f : α → AV) (a : List α) : List (List AV) := a.map fun x => [f x]
theorem rowsR_length {α : Type} (f : α → AV) (a : List α) : (rowsR f a).length = a.length := by simp [rowsR]
theorem ixQ_rowsI {a : List Int} {n : Int} {K : AV → Prop} : ixQ (none, 1) (.ro 1 (rowsI a)) n K = ((0 ≤ n ∧ n < a.length) ∧ K (.rptr [.int .i64 (a.getD n.toNat 0)])) := ixQ_map
theorem ixQ_rowsB {a : List Bool} {n : Int} {K : AV → Prop} : ixQ (none, 1) (.ro 1 (rowsB a)) n K = ((0 ≤ n ∧ n < a.length) ∧ K (.rptr [.bool (a.getD n.toNat false)])) := ixQ_map
def rowsII (g : List (List Int)) : List (List AV) := g.map fun a => [.ro 1 (rowsI a)]
theorem rowsII_length (g : List (List Int)) : (rowsII g).length = g.length := by simp [rowsII]
theorem ixQ_rowsII {a : List (List Int)} {n : Int} {K : AV → Prop} : ixQ (none, 1) (.ro 1 (rowsII a)) n K = ((0 ≤ n ∧ n < a.length) ∧ K (.rptr [.ro 1 (rowsI (a.getD n.toNat []))])) := ixQ_map
theorem View.same {H : List (Option Blk)} {c c' : AV} (h : refs c = []) (e : c = c') : View H c c' := e ▸ .frz c h
theorem View.bool {H : List (Option Blk)} {b b' : Bool} (e : b = b') : View H (.bool b) (.bool b') := e ▸ .frz _ rfl
theorem View.int {H : List (Option Blk)} {k : IntKind} {b b' : Int} (e : b = b') : View H (.int k b) (.int k b') := e ▸ .frz _ rfl

def tab : List (Nat × AV) → Nat → Option AV
  | [], _ => none
  | p :: l, t => if t = p.1 then some p.2 else tab l t
theorem tab_nil (t : Nat) : tab [] t = none := rfl
theorem tab_cons (k : Nat) (v : AV) (l : List (Nat × AV)) (t : Nat) : tab ((k, v) :: l) t = if t = k then some v else tab l t := rfl
theorem tab_sub {l : List (Nat × AV)} {T : Nat → Option AV} (h : ∀ p ∈ l, T p.1 = some p.2) : ∀ t v, tab l t = some v → T t = some v := by
  induction l with
  | nil => intro t v h; cases h
  | cons p l ih =>
    intro t v hv
    simp only [tab] at hv
    split at hv
    · rename_i he; cases hv; rw [he]; exact h p (List.mem_cons_self ..)
    · exact ih (fun q hq => h q (List.mem_cons_of_mem _ hq)) t v hv
theorem tab_mem {l : List (Nat × AV)} : ∀ {t : Nat} {v : AV}, tab l t = some v → ∃ p ∈ l, p.2 = v := by
  induction l with
  | nil => intro t v h; cases h
  | cons p l ih =>
    intro t v hv
    simp only [tab] at hv
    split at hv
    · cases hv; exact ⟨p, List.mem_cons_self .., rfl⟩
    · obtain ⟨q, hq, e⟩ := ih hv; exact ⟨q, List.mem_cons_of_mem _ hq, e⟩

/-- Only slots are forgotten; the memory stays. -/
theorem Imp.slots {T : Nat → Option AV} {H : List (Option Blk)} {M M' : List Nat} {l : List (Nat × AV)} (h : ∀ p ∈ l, T p.1 = some p.2) (hM : ∀ id, id ∈ M → id ∈ M') : Imp G N ⟨T, H, M⟩ ⟨tab l, H, M'⟩ := fun ι F a w hr =>
  ⟨ι, F, ⟨fun t v hv => hr.t t v (tab_sub h t v hv), hr.h, hr.g, hr.n, hr.d⟩, ⟨Tr.refl _ _ _ _ |>.toExt, fun c x hc hx => hx, hM⟩⟩
end
end Go.Aw

/- For the proofs: calls whose answer is new memory alone. -/
set_option linter.unusedVariables false
set_option linter.unusedSimpArgs false
namespace Go.Aw
open Go

/-- A call that leaves all as it was; its answer lies in new memory alone. -/
def FCall (P : Program) (G : Glob) (f : FuncId) (args : List AV) (r : AV) : Prop :=
  Callable P f ∧ ∀ (F : Nat → Prop) (w : World) (us : Array Value), (∀ g, F g → g < w.heap.size) → RelG G w F → FRL w F args us →
    Calls P f us w fun e w' => ∃ v, e = .returned v ∧ FR w' (fun g => w.heap.size ≤ g ∧ g < w'.heap.size) r v ∧ Kept w w'

section
variable {P : Program} {G : Glob}

theorem FCall.pcall {f : FuncId} {args : List AV} {r : AV} (h : FCall P G f args r) : PCall P G f args r :=
  ⟨h.1, fun F w us hF hG ha => (h.2 F w us hF hG ha).mono fun e w' ⟨v, he, hv, hk⟩ => ⟨v, he, hv.mono (fun g hg => .inr hg) fun _ _ => rfl, hk⟩⟩

theorem Kept.cell {w w' : World} (h : Kept w w') {a : Addr} (ha : a.block < w.heap.size) : w'.cell? a = w.cell? a := cell_block (h.keep _ ha)

theorem RelG.le {G : Glob} {w : World} {F F' : Nat → Prop} (h : RelG G w F) (hF : ∀ g, F g → F' g) : RelG G w F' := h.same hF fun _ _ => rfl

/-- Of memory of one's own, lent. -/
theorem FCall.ecall {f : FuncId} {args args' : List AV} {H : List (Option Blk)} {r : AV} (h : FCall P G f args' r) (hv : ViewL H args args') : ECall P G f args H r H [] := by
  refine ⟨h.1, fun ι F w us hR hG ha => ?_⟩
  obtain ⟨hl, hs⟩ := hv.sound hR.toRelH
  have hfp : ∀ g, fp ι H g → g < w.heap.size := fun g ⟨id, b, x, h1, h2⟩ => by
    obtain ⟨cs, e, vals, h3, _⟩ := (hR.blk id b h1).2.2 g x h2
    exact heap_lt h3
  have hF' : ∀ g, F g ∨ fp ι H g → g < w.heap.size := fun g hg => hg.elim (hR.fz g) (hfp g)
  have hargs : FRL w (fun g => F g ∨ fp ι H g) args' us := ⟨by rw [hl]; exact ha.1, fun j c hc => by
    obtain ⟨c0, hc0⟩ := get_len hl hc
    obtain ⟨x, hx, hxr⟩ := ha.2 j c0 hc0
    exact ⟨x, hx, hs j c x hc fun d hd => by rw [hc0] at hd; cases hd; exact hxr⟩⟩
  refine (h.2 _ w us hF' (hG.le fun g hg => .inl hg) hargs).mono fun e w' ⟨v, he, hv', hk⟩ => ?_
  let F' : Nat → Prop := fun g => F g ∨ (w.heap.size ≤ g ∧ g < w'.heap.size)
  have hsame : Same F w w' := ⟨fun a ha => hk.cell (hR.fz _ ha), fun g x hx => by
    have hlt : g < w.heap.size := by
      unfold World.shape? at hx
      split at hx
      · rename_i h1; exact heap_lt h1
      · cases hx
    rw [shape_block (hk.keep g hlt)]; exact hx⟩
  have hvr : ∀ c x, VR w ι F c x → VR w' ι F' c x := fun c x hx => hx.mono (fun g hg => .inl hg) hsame.1 hsame.2 fun _ _ h => h
  refine ⟨v, ι, F', he, .fr (hv'.mono (fun g hg => .inr hg) fun _ _ => rfl), ⟨⟨fun id b hb => ?_, hR.inj, fun id b g x h1 h2 h3 => ?_, fun g hg => ?_⟩, hR.dom⟩, ⟨hk.size, fun g hg _ => hk.keep g hg, hsame.2, hk.os, hk.tape, hk.output, fun g hg => .inl hg, fun g hg => ?_, fun g hg => .inl hg⟩, fun c x hx => ?_⟩
  · obtain ⟨h1, h2, h3⟩ := hR.blk id b hb
    refine ⟨h1, h2, fun g base hι => ?_⟩
    obtain ⟨cs, e, vals, h4, h5, h6, h7⟩ := h3 g base hι
    exact ⟨cs, e, vals, by rw [hk.keep g (heap_lt h4)]; exact h4, h5, h6, fun i row j c hi hc => hvr _ _ (h7 i row j c hi hc)⟩
  · rcases h3 with h3 | h3
    · exact hR.apart id b g x h1 h2 h3
    · exact absurd (hfp g ⟨id, b, x, h1, h2⟩) (by omega)
  · rcases hg with hg | hg
    · exact Nat.lt_of_lt_of_le (hR.fz g hg) hk.size
    · exact hg.2
  · rcases hg with hg | hg
    · exact .inl hg
    · exact .inr (.inr hg.1)
  · have : killK [] c = c := killK_nil c
    rw [this]; exact hvr c x hx

/-- Below a mark nothing has turned. -/
theorem kept_below {w w' : World} (h : RowKit.Below w.heap.size w w') : Kept w w' := ⟨h.size, h.block, h.os, h.tape, h.output⟩

/-- A slice of integers of the call's own, read as frozen. -/
theorem own_ints {w' : World} {base n cap g : Nat} {e : TypeId} {zs : List Int} (h : w'.ownsRow base e 1 (.slice (some ⟨g, 0, none⟩) n cap) n (zs.map (Value.int .i64))) (hn2 : n ≤ 140737488355328) : FR w' (fun g => base ≤ g ∧ g < w'.heap.size) (.ro 1 (rowsI zs)) (.slice (some ⟨g, 0, none⟩) n cap) := by
  have hl : zs.length = n := by simpa using h.1
  rcases h.2 with ⟨e0, _⟩ | ⟨g', cap', cur, e0, hb, hg, hn, hm, hs, ht⟩
  · cases e0
  cases e0
  have hn' : (rowsI zs).length = n := by simp [rowsI, hl]
  have hcell : ∀ i, i < n → w'.cell? ⟨g, i, none⟩ = some (.int .i64 (zs.getD i 0)) := by
    intro i hi
    have h1 : (cur.toList.take (n * 1))[i]? = some (.int .i64 (zs.getD i 0)) := by
      rw [ht]
      simp [List.getD_eq_getElem?_getD, List.getElem?_eq_getElem (show i < zs.length by omega)]
    rw [List.getElem?_take_of_lt (by omega)] at h1
    simp only [World.cell?, hg]
    simpa using h1
  have key := FR.ro (w := w') (F := fun g => base ≤ g ∧ g < w'.heap.size) 1 (rowsI zs) (some ⟨g, 0, none⟩) cap (fun i _ => .int .i64 (zs.getD i 0)) ⟨by omega, by omega⟩ ?k1 (fun i j _ _ => rfl) ?k2
  · rwa [hn'] at key
  · intro i row hr
    have hi := (List.getElem?_eq_some_iff.1 hr).1
    refine ⟨?_, _, rfl, rfl, ⟨hb, heap_lt hg⟩, fun j hj => ?_⟩
    · simp [rowsI] at hr
      obtain ⟨x, _, rfl⟩ := hr
      rfl
    · have : j = 0 := by omega
      subst this
      simpa using hcell i (by omega)
  · intro i row j c hr hc
    simp only [rowsI, List.getElem?_map, Option.map_eq_some_iff] at hr
    obtain ⟨x, hx, rfl⟩ := hr
    cases j with
    | succ j => simp at hc
    | zero =>
      simp at hc
      subst hc
      rw [show zs.getD i 0 = x by simp [List.getD_eq_getElem?_getD, hx]]
      exact .int _ _
end
end Go.Aw

/- For the proofs: reads and writes of own memory, as they are computed. -/
set_option linter.unusedVariables false
set_option linter.unusedSimpArgs false
namespace Go.Aw
open Go

section
variable {P : Program} {G : Glob} {N : Nat} {cs : CwOf}
/-- A live block. -/
def blkQ (H : List (Option Blk)) (id : Nat) (K : Blk → Prop) : Prop := Ob H[id]? fun o => Ob o K
@[congr] theorem blkQ_congr {H H' : List (Option Blk)} {id id' : Nat} {K : Blk → Prop} (h : H = H') (h' : id = id') : blkQ H id K = blkQ H' id' K := by rw [h, h']
theorem blkQ_nil {id : Nat} {K : Blk → Prop} : blkQ [] id K = False := rfl
theorem blkQ_zero {b : Blk} {H : List (Option Blk)} {K : Blk → Prop} : blkQ (some b :: H) 0 K = K b := rfl
theorem blkQ_succ {o : Option Blk} {H : List (Option Blk)} {n : Nat} {K : Blk → Prop} : blkQ (o :: H) (n + 1) K = blkQ H n K := rfl

/-- A read off a block. -/
def ldB (l : Option Nat) (s i j : Nat) (b : Blk) (K : AV → Prop) : Prop := b.s = s ∧ i < b.rows.length ∧ (rdC l ((b.rows.getD i []).drop j)).1 ∧ K (rdC l ((b.rows.getD i []).drop j)).2
@[congr] theorem ldB_congr {l l' : Option Nat} {s s' i i' j j' : Nat} {b b' : Blk} {K : AV → Prop} (h1 : l = l') (h2 : s = s') (h3 : i = i') (h4 : j = j') (h5 : b = b') : ldB l s i j b K = ldB l' s' i' j' b' K := by rw [h1, h2, h3, h4, h5]
theorem ldQ_ptr {l : Option Nat} {id s i j : Nat} {H : List (Option Blk)} {K : AV → Prop} : ldQ l (.ptr id s i j) H K = blkQ H id fun b => ldB l s i j b K := by
  simp only [ldQ, blkQ]
  cases H[id]? with
  | none => rfl
  | some o => cases o <;> rfl
theorem ldB_row {l : Option Nat} {s j : Nat} {row : List AV} {K : AV → Prop} : ldB l s 0 j ⟨s, [row]⟩ K = ((rdC l (row.drop j)).1 ∧ K (rdC l (row.drop j)).2) := by simp [ldB]
theorem ldB_map {α : Type} {d : α} {l : Option Nat} {s i j : Nat} {a : List α} {f : α → List AV} {K : AV → Prop} : ldB l s i j ⟨s, a.map f⟩ K = (i < a.length ∧ (rdC l ((f (a.getD i d)).drop j)).1 ∧ K (rdC l ((f (a.getD i d)).drop j)).2) := by
  simp only [ldB, true_and, List.length_map]
  rw [eq_iff_iff]
  refine and_congr_right fun h => ?_
  rw [show (a.map f).getD i [] = f (a.getD i d) by simp [List.getD_eq_getElem?_getD, List.getElem?_eq_getElem h]]
theorem ldB_rowsI {i : Nat} {a : List Int} {K : AV → Prop} : ldB none 1 i 0 ⟨1, rowsI a⟩ K = (i < a.length ∧ K (.int .i64 (a.getD i 0))) := by
  unfold rowsI
  rw [ldB_map (d := 0)]
  simp [rdC]
theorem ldB_rowsB {i : Nat} {a : List Bool} {K : AV → Prop} : ldB none 1 i 0 ⟨1, rowsB a⟩ K = (i < a.length ∧ K (.bool (a.getD i false))) := by
  unfold rowsB
  rw [ldB_map (d := false)]
  simp [rdC]
theorem ldB_rowsII {i : Nat} {a : List (List Int)} {K : AV → Prop} : ldB none 1 i 0 ⟨1, rowsII a⟩ K = (i < a.length ∧ K (.ro 1 (rowsI (a.getD i [])))) := by
  unfold rowsII
  rw [ldB_map (d := [])]
  simp [rdC]
def rowsP (a : List (Int × Int)) : List (List AV) := a.map fun p => [.int .i64 p.1, .int .i64 p.2]
theorem rowsP_length (a : List (Int × Int)) : (rowsP a).length = a.length := by simp [rowsP]
theorem ldB_rowsP0 {i : Nat} {a : List (Int × Int)} {K : AV → Prop} : ldB none 2 i 0 ⟨2, rowsP a⟩ K = (i < a.length ∧ K (.int .i64 (a.getD i (0, 0)).1)) := by
  unfold rowsP
  rw [ldB_map (d := (0, 0))]
  simp [rdC]
theorem ldB_rowsP1 {i : Nat} {a : List (Int × Int)} {K : AV → Prop} : ldB none 2 i 1 ⟨2, rowsP a⟩ K = (i < a.length ∧ K (.int .i64 (a.getD i (0, 0)).2)) := by
  unfold rowsP
  rw [ldB_map (d := (0, 0))]
  simp [rdC]

/-- A write into a block. -/
def stB (n s i j : Nat) (cs : List AV) (b : Blk) (K : Blk → Prop) : Prop := (b.s = s ∧ cs.length = n) ∧ (i < b.rows.length ∧ j + n ≤ (b.rows.getD i []).length) ∧ K ⟨s, b.rows.set i (spl (b.rows.getD i []) j cs)⟩
@[congr] theorem stB_congr {n s i j : Nat} {cs cs' : List AV} {b b' : Blk} {K : Blk → Prop} (h : cs = cs') (h' : b = b') : stB n s i j cs b K = stB n s i j cs' b' K := by rw [h, h']
def stQ (n : Nat) (p : AV) (cs : List AV) (H : List (Option Blk)) (K : List (Option Blk) → Prop) : Prop := match p with
  | .ptr id s i j => blkQ H id fun b => stB n s i j cs b fun b' => K (H.set id (some b'))
  | _ => False
@[congr] theorem stQ_congr {n n' : Nat} {p p' : AV} {cs cs' : List AV} {H H' : List (Option Blk)} {K : List (Option Blk) → Prop} (h1 : n = n') (h2 : p = p') (h3 : cs = cs') (h4 : H = H') : stQ n p cs H K = stQ n' p' cs' H' K := by rw [h1, h2, h3, h4]
theorem stQ_ptr {n id s i j : Nat} {cs : List AV} {H : List (Option Blk)} {K : List (Option Blk) → Prop} : stQ n (.ptr id s i j) cs H K = blkQ H id fun b => stB n s i j cs b fun b' => K (H.set id (some b')) := rfl
theorem stB_row {n s j : Nat} {cs row : List AV} {K : Blk → Prop} : stB n s 0 j cs ⟨s, [row]⟩ K = (cs.length = n ∧ j + n ≤ row.length ∧ K ⟨s, [spl row j cs]⟩) := by simp [stB]
theorem set_map {α : Type} {a : List α} {f : α → List AV} {i : Nat} {x : α} {row : List AV} (h : row = f x) : (a.map f).set i row = (a.set i x).map f := by rw [h, List.map_set]
theorem stB_rowsI {i : Nat} {a : List Int} {v : Int} {K : Blk → Prop} : stB 1 1 i 0 [.int .i64 v] ⟨1, rowsI a⟩ K = (i < a.length ∧ K ⟨1, rowsI (a.set i v)⟩) := by
  simp only [stB, List.length_cons, List.length_nil, rowsI_length, true_and]
  rw [eq_iff_iff]
  constructor
  · rintro ⟨⟨h, _⟩, hk⟩
    rw [rowsI_getD a i h] at hk
    simp only [rowsI, spl, List.take_zero, List.nil_append, List.length_cons, List.length_nil, List.drop_succ_cons, List.drop_zero, List.append_nil] at hk ⊢
    exact ⟨h, by rwa [set_map rfl] at hk⟩
  · rintro ⟨h, hk⟩
    rw [rowsI_getD a i h]
    refine ⟨⟨h, by simp⟩, ?_⟩
    simp only [rowsI, spl, List.take_zero, List.nil_append, List.length_cons, List.length_nil, List.drop_succ_cons, List.drop_zero, List.append_nil] at hk ⊢
    rwa [set_map (f := fun x => [AV.int .i64 x]) rfl]
theorem stB_rowsB {i : Nat} {a : List Bool} {v : Bool} {K : Blk → Prop} : stB 1 1 i 0 [.bool v] ⟨1, rowsB a⟩ K = (i < a.length ∧ K ⟨1, rowsB (a.set i v)⟩) := by
  simp only [stB, List.length_cons, List.length_nil, rowsB_length, true_and]
  rw [eq_iff_iff]
  constructor
  · rintro ⟨⟨h, _⟩, hk⟩
    rw [rowsB_getD a i h] at hk
    simp only [rowsB, spl, List.take_zero, List.nil_append, List.length_cons, List.length_nil, List.drop_succ_cons, List.drop_zero, List.append_nil] at hk ⊢
    exact ⟨h, by rwa [set_map (f := fun x => [AV.bool x]) rfl] at hk⟩
  · rintro ⟨h, hk⟩
    rw [rowsB_getD a i h]
    refine ⟨⟨h, by simp⟩, ?_⟩
    simp only [rowsB, spl, List.take_zero, List.nil_append, List.length_cons, List.length_nil, List.drop_succ_cons, List.drop_zero, List.append_nil] at hk ⊢
    rwa [set_map (f := fun x => [AV.bool x]) rfl]
theorem stB_rowsII {i : Nat} {a : List (List Int)} {v : List Int} {K : Blk → Prop} : stB 1 1 i 0 [.ro 1 (rowsI v)] ⟨1, rowsII a⟩ K = (i < a.length ∧ K ⟨1, rowsII (a.set i v)⟩) := by
  simp only [stB, List.length_cons, List.length_nil, rowsII_length, true_and]
  rw [eq_iff_iff]
  have e : ∀ h : i < a.length, (rowsII a).getD i [] = [.ro 1 (rowsI (a.getD i []))] := fun h => by simp [rowsII, List.getD_eq_getElem?_getD, List.getElem?_eq_getElem h]
  constructor
  · rintro ⟨⟨h, _⟩, hk⟩
    rw [e h] at hk
    simp only [rowsII, spl, List.take_zero, List.nil_append, List.length_cons, List.length_nil, List.drop_succ_cons, List.drop_zero, List.append_nil] at hk ⊢
    exact ⟨h, by rwa [set_map (f := fun x => [AV.ro 1 (rowsI x)]) rfl] at hk⟩
  · rintro ⟨h, hk⟩
    rw [e h]
    refine ⟨⟨h, by simp⟩, ?_⟩
    simp only [rowsII, spl, List.take_zero, List.nil_append, List.length_cons, List.length_nil, List.drop_succ_cons, List.drop_zero, List.append_nil] at hk ⊢
    rwa [set_map (f := fun x => [AV.ro 1 (rowsI x)]) rfl]
theorem stB_rowsP1 {i : Nat} {a : List (Int × Int)} {v : Int} {K : Blk → Prop} : stB 1 2 i 1 [.int .i64 v] ⟨2, rowsP a⟩ K = (i < a.length ∧ K ⟨2, rowsP (a.set i ((a.getD i (0, 0)).1, v))⟩) := by
  simp only [stB, List.length_cons, List.length_nil, rowsP_length, true_and]
  rw [eq_iff_iff]
  have e : ∀ h : i < a.length, (rowsP a).getD i [] = [.int .i64 (a.getD i (0, 0)).1, .int .i64 (a.getD i (0, 0)).2] := fun h => by simp [rowsP, List.getD_eq_getElem?_getD, List.getElem?_eq_getElem h]
  constructor
  · rintro ⟨⟨h, _⟩, hk⟩
    rw [e h] at hk
    simp only [rowsP, spl, List.take_succ_cons, List.take_zero, List.cons_append, List.nil_append, List.length_cons, List.length_nil, List.drop_succ_cons, List.drop_zero, List.drop_nil, List.append_nil] at hk ⊢
    exact ⟨h, by rwa [set_map (f := fun p : Int × Int => [AV.int .i64 p.1, AV.int .i64 p.2]) (x := ((a.getD i (0, 0)).1, v)) rfl] at hk⟩
  · rintro ⟨h, hk⟩
    rw [e h]
    refine ⟨⟨h, by simp⟩, ?_⟩
    simp only [rowsP, spl, List.take_succ_cons, List.take_zero, List.cons_append, List.nil_append, List.length_cons, List.length_nil, List.drop_succ_cons, List.drop_zero, List.drop_nil, List.append_nil] at hk ⊢
    rwa [set_map (f := fun p : Int × Int => [AV.int .i64 p.1, AV.int .i64 p.2]) (x := ((a.getD i (0, 0)).1, v)) rfl]

/-- What an append or a copy reads. -/
def srcQ (es : Nat) (a : AV) (H : List (Option Blk)) (K : List (List AV) → Prop) : Prop := match a with
  | .sl id s off len _ => blkQ H id fun b => (b.s = s ∧ s = es) ∧ off + len ≤ b.rows.length ∧ K ((b.rows.drop off).take len)
  | .ro s rows => (s = es ∨ rows = []) ∧ K rows
  | .nils => K []
  | _ => False
@[congr] theorem srcQ_congr {es es' : Nat} {a a' : AV} {H H' : List (Option Blk)} {K : List (List AV) → Prop} (h1 : es = es') (h2 : a = a') (h3 : H = H') : srcQ es a H K = srcQ es' a' H' K := by rw [h1, h2, h3]
theorem srcQ_sl {es id s off len m : Nat} {H : List (Option Blk)} {K : List (List AV) → Prop} : srcQ es (.sl id s off len m) H K = blkQ H id fun b => (b.s = s ∧ s = es) ∧ off + len ≤ b.rows.length ∧ K ((b.rows.drop off).take len) := rfl
theorem srcQ_ro {es s : Nat} {rows : List (List AV)} {H : List (Option Blk)} {K : List (List AV) → Prop} : srcQ es (.ro s rows) H K = ((s = es ∨ rows = []) ∧ K rows) := rfl
theorem srcQ_nils {es : Nat} {H : List (Option Blk)} {K : List (List AV) → Prop} : srcQ es .nils H K = K [] := rfl
theorem srcRows_Q {es : Nat} {a : AV} {H : List (Option Blk)} {K : List (List AV) → Prop} : (Ob (srcRows H es a) fun p => p.1 ∧ K p.2) = srcQ es a H K := by
  cases a <;> simp only [srcRows, srcQ, Ob]
  case nils => simp
  case ro s rows =>
    by_cases h : s = es ∨ rows.isEmpty = true
    · rw [if_pos h]
    · rw [if_neg h, eq_iff_iff]
      refine ⟨fun k => k.elim, fun k => h ?_⟩
      rcases k.1 with k | k
      · exact .inl k
      · exact .inr (by simp [k])
  case sl id s off len m =>
    simp only [blkQ]
    cases H[id]? with
    | none => rfl
    | some o => cases o with
      | none => rfl
      | some b =>
        simp only [Ob]
        by_cases h : b.s = s ∧ s = es
        · simp [h]
        · rw [if_neg h, eq_iff_iff]; exact ⟨fun k => k.elim, fun k => absurd k.1 h⟩
def appB (s es by_ off len : Nat) (b : Blk) (news : List (List AV)) (K : List (List AV) → Prop) : Prop := (b.s = s ∧ s = es) ∧ (off + len ≤ b.rows.length ∧ (len + news.length) * by_ ≤ 140737488355328 ∧ len + news.length ≤ 140737488355328) ∧ K ((b.rows.drop off).take len ++ news)
@[congr] theorem appB_congr {s es by_ off len : Nat} {b b' : Blk} {news news' : List (List AV)} {K : List (List AV) → Prop} (h : b = b') (h' : news = news') : appB s es by_ off len b news K = appB s es by_ off len b' news' K := by rw [h, h']
def appQ (es by_ : Nat) (a : AV) (H : List (Option Blk)) (slot : Nat) (news : List (List AV)) (K : AV → List (Option Blk) → List Nat → Prop) : Prop := match a with
  | .nils => (news.length * by_ ≤ 140737488355328 ∧ news.length ≤ 140737488355328) ∧ H[slot]? = some none ∧ K (.sl slot es 0 news.length news.length) (H.set slot (some ⟨es, news⟩)) []
  | .sl id s off len _ => blkQ H id fun b => appB s es by_ off len b news fun rows => H[slot]? = some none ∧ K (.sl id es 0 (len + news.length) (len + news.length)) ((killH id H).set id (some ⟨es, killR id rows⟩)) [id]
  | _ => False
@[congr] theorem appQ_congr {es es' by_ by_' : Nat} {a a' : AV} {H H' : List (Option Blk)} {slot slot' : Nat} {news news' : List (List AV)} {K : AV → List (Option Blk) → List Nat → Prop} (h1 : es = es') (h2 : by_ = by_') (h3 : a = a') (h4 : H = H') (h5 : slot = slot') (h6 : news = news') : appQ es by_ a H slot news K = appQ es' by_' a' H' slot' news' K := by rw [h1, h2, h3, h4, h5, h6]
theorem appQ_nils {es by_ : Nat} {H : List (Option Blk)} {slot : Nat} {news : List (List AV)} {K : AV → List (Option Blk) → List Nat → Prop} : appQ es by_ .nils H slot news K = ((news.length * by_ ≤ 140737488355328 ∧ news.length ≤ 140737488355328) ∧ H[slot]? = some none ∧ K (.sl slot es 0 news.length news.length) (H.set slot (some ⟨es, news⟩)) []) := rfl
theorem appQ_sl {es by_ id s off len m : Nat} {H : List (Option Blk)} {slot : Nat} {news : List (List AV)} {K : AV → List (Option Blk) → List Nat → Prop} : appQ es by_ (.sl id s off len m) H slot news K = blkQ H id fun b => appB s es by_ off len b news fun rows => H[slot]? = some none ∧ K (.sl id es 0 (len + news.length) (len + news.length)) ((killH id H).set id (some ⟨es, killR id rows⟩)) [id] := rfl

section rules
variable {cw : List Nat} {hmf : List (Option Blk) → List (Option Blk)} {i slot : Nat} {d : Option Tmp} {ty : TypeId} {pos : String} {aft : Array Edge} {gd : Option (Nat × Bool)} {st : St} {Q : St → Prop}
theorem doQ_storeQ {t : TypeId} {x y : Operand} : doQ P G cw hmf i slot ⟨d, .store t x y, ty, pos, aft, gd⟩ st Q = Ob (szI P t) fun n => Ob (ev G st.T x) fun p => Ob ((ev G st.T y).bind cellsQ) fun cs => stQ n p cs st.H fun H' => Q ⟨put st.T d (.tup []), H', st.M⟩ := by
  rw [doQ_store]
  cases szI P t with
  | none => rfl
  | some n => cases ev G st.T x with
    | none => rfl
    | some p => cases (ev G st.T y).bind cellsQ with
      | none => rfl
      | some cs =>
        simp only [Ob_some]
        cases p <;> simp only [stQ]
        rename_i id s i j
        simp only [blkQ]
        cases st.H[id]? with
        | none => rfl
        | some o => cases o <;> rfl
theorem doQ_append {x y : Operand} {t : TypeId} : doQ P G cw hmf i slot ⟨d, .call { callee := .builtin .append, args := #[x, y], argTypes := #[t, t] }, ty, pos, aft, gd⟩ st Q = Ob (elI P t) fun e => 0 < e.1 ∧ Ob (ev G st.T x) fun a => Ob (ev G st.T y) fun b => srcQ e.1 b st.H fun news => appQ e.1 e.2.1 a st.H slot news fun v H' Ks => Q ⟨put (killKT Ks st.T) d v, H', Ks ++ st.M⟩ := by
  rw [doQ_wbi rfl]
  simp only [evWB, if_true, isApp, Bool.true_eq_false, false_or]
  cases elI P t with
  | none => rfl
  | some e =>
    obtain ⟨es, by_, z⟩ := e
    simp only [Ob_some]
    by_cases h0 : 0 < es
    · simp only [h0, if_true, true_and]
      cases ev G st.T x with
      | none => simp [Ob]
      | some a => cases ev G st.T y with
        | none => cases a <;> simp [Ob]
        | some b =>
          simp only [Option.bind_some, Ob_some, ← srcRows_Q]
          cases srcRows st.H es b with
          | none => cases a <;> simp [Ob]
          | some p =>
            obtain ⟨c, news⟩ := p
            cases a <;> simp only [appQ, Ob_some, Ob_none, and_false]
            · simp [and_assoc]
            · rename_i id s off len m
              simp only [blkQ]
              cases st.H[id]? with
              | none => simp [Ob]
              | some o => cases o with
                | none => simp [Ob]
                | some b =>
                  simp only [Ob_some, appB]
                  by_cases h : b.s = s ∧ s = es
                  · simp only [h, and_self, if_true, Ob_some, true_and, Option.toList, List.singleton_append, List.cons_append, List.nil_append]
                    simp [and_assoc]
                  · rw [if_neg h]; simp [Ob, h]
    · simp [h0, Ob]
def slQ (es : Nat) (a : AV) (lo : Int) (hi : Option Int) (mx : Option Int) (K : AV → Prop) : Prop := match a, mx with
  | .sl id s off len m, none => es = s ∧ (0 ≤ lo ∧ lo ≤ hi.getD len ∧ hi.getD len ≤ m) ∧ K (.sl id s (off + lo.toNat) (hi.getD len - lo).toNat (m - lo.toNat))
  | .sl id s off len m, some k => hi.isSome = true ∧ es = s ∧ (0 ≤ lo ∧ lo ≤ hi.getD 0 ∧ hi.getD 0 ≤ k ∧ k ≤ m) ∧ K (.sl id s (off + lo.toNat) (hi.getD 0 - lo).toNat (k - lo).toNat)
  | .ro s rows, none => es = s ∧ (0 ≤ lo ∧ lo ≤ hi.getD rows.length ∧ hi.getD rows.length ≤ rows.length) ∧ K (.ro s ((rows.take (hi.getD rows.length).toNat).drop lo.toNat))
  | .ro s rows, some k => hi.isSome = true ∧ es = s ∧ (lo = 0 ∧ hi.getD 0 = 0 ∧ k = 0) ∧ K .nils
  | .nils, none => (lo = 0 ∧ hi.getD 0 = 0) ∧ K .nils
  | .nils, some k => hi.isSome = true ∧ (lo = 0 ∧ hi.getD 0 = 0 ∧ k = 0) ∧ K .nils
  | _, _ => False
@[congr] theorem slQ_congr {es es' : Nat} {a a' : AV} {lo lo' : Int} {hi hi' mx mx' : Option Int} {K : AV → Prop} (h1 : es = es') (h2 : a = a') (h3 : lo = lo') (h4 : hi = hi') (h5 : mx = mx') : slQ es a lo hi mx K = slQ es' a' lo' hi' mx' K := by rw [h1, h2, h3, h4, h5]
def bndQ (ρ : Operand → Option AV) : Option Operand → Option (Option Int)
  | none => some none
  | some x => ((ρ x).bind asI).map some
theorem bndQ_none (ρ : Operand → Option AV) : bndQ ρ none = some none := rfl
theorem bndQ_some (ρ : Operand → Option AV) (x : Operand) : bndQ ρ (some x) = ((ρ x).bind asI).map some := rfl
theorem bound_Q (ρ : Operand → Option AV) (d : Int) (x : Option Operand) : bound ρ d x = (bndQ ρ x).map (·.getD d) := by
  cases x with
  | none => rfl
  | some x =>
    simp only [bound, bndQ]
    cases ρ x with
    | none => rfl
    | some v => cases v <;> rfl
theorem doQ_sliceQ {t : TypeId} {x : Operand} {lo hi mx : Option Operand} (h : (ixI P t).isSome = true) : doQ P G cw hmf i slot ⟨d, .slice t x lo hi mx, ty, pos, aft, gd⟩ st Q = Ob (ixI P t) fun l => l.1 = none ∧ Ob (ev G st.T x) fun a => Ob (bndQ (ev G st.T) lo) fun lo => Ob (bndQ (ev G st.T) hi) fun hi => Ob (bndQ (ev G st.T) mx) fun mx => slQ l.2 a (lo.getD 0) hi mx fun v => Q ⟨put st.T d v, st.H, st.M⟩ := by
  rw [doQ_slice]
  have hs : P.underlying t ≠ some .string := by
    intro e; simp [ixI, e] at h
  obtain ⟨l, hl⟩ := Option.isSome_iff_exists.1 h
  obtain ⟨l1, es⟩ := l
  rw [hl]
  simp only [Ob_some]
  cases mx with
  | none =>
    simp only [evO, bndQ_none, bound_Q, hl, Ob_some]
    cases ev G st.T x with
    | none => simp [Ob]
    | some a =>
      simp only [Ob_some]
      cases hlo : bndQ (ev G st.T) lo with
      | none => cases a <;> cases l1 <;> simp [Ob] <;> (try split <;> simp_all)
      | some lo' => cases hhi : bndQ (ev G st.T) hi with
        | none => cases a <;> cases l1 <;> simp [Ob] <;> (try split <;> simp_all)
        | some hi' =>
          simp only [Option.map_some, Ob_some]
          cases a with
          | str s =>
            cases hu : P.underlying t with
            | none => simp [Ob, slQ]
            | some u => cases u <;> first | exact absurd hu hs | simp [Ob, slQ]
          | sl id s off len m =>
            cases l1 with
            | some k => simp [Ob]
            | none => by_cases he : es = s <;> simp [Ob, slQ, he, setH]
          | ro s rows =>
            cases l1 with
            | some k => simp [Ob]
            | none => by_cases he : es = s <;> simp [Ob, slQ, he, setH]
          | nils => cases l1 <;> simp [Ob, slQ, setH]
          | _ => simp [Ob, slQ]
  | some mx =>
    simp only [evO, bound_Q, hl, bndQ_some, Ob_some]
    cases ev G st.T x with
    | none => simp [Ob]
    | some a =>
      simp only [Ob_some]
      cases hi with
      | none => cases a <;> cases (ev G st.T mx).bind asI <;> cases bndQ (ev G st.T) lo <;> simp [Ob, slQ, bndQ]
      | some hi =>
        simp only [bndQ_some]
        cases hlo : bndQ (ev G st.T) lo with
        | none => cases a <;> cases l1 <;> simp [Ob]
        | some lo' => cases hhi : (ev G st.T hi).bind asI with
          | none => cases a <;> cases l1 <;> simp [Ob]
          | some hi' => cases hmx : (ev G st.T mx).bind asI with
            | none => cases a <;> cases l1 <;> simp [Ob]
            | some mx' =>
              simp only [Option.map_some, Ob_some]
              cases a with
              | sl id s off len m =>
                cases l1 with
                | some k => simp [Ob]
                | none => by_cases he : es = s <;> simp [Ob, slQ, he, setH]
              | ro s rows =>
                cases l1 with
                | some k => simp [Ob]
                | none => by_cases he : es = s <;> simp [Ob, slQ, he, setH]
              | nils => cases l1 <;> simp [Ob, slQ, setH]
              | _ => simp [Ob, slQ]
theorem slQ_sl {es id s off len m : Nat} {lo : Int} {hi : Option Int} {K : AV → Prop} : slQ es (.sl id s off len m) lo hi none K = (es = s ∧ (0 ≤ lo ∧ lo ≤ hi.getD len ∧ hi.getD len ≤ m) ∧ K (.sl id s (off + lo.toNat) (hi.getD len - lo).toNat (m - lo.toNat))) := rfl
theorem slQ_sl3 {es id s off len m : Nat} {lo h k : Int} {K : AV → Prop} : slQ es (.sl id s off len m) lo (some h) (some k) K = (es = s ∧ (0 ≤ lo ∧ lo ≤ h ∧ h ≤ k ∧ k ≤ m) ∧ K (.sl id s (off + lo.toNat) (h - lo).toNat (k - lo).toNat)) := by simp [slQ]
theorem slQ_ro {es s : Nat} {rows : List (List AV)} {lo : Int} {hi : Option Int} {K : AV → Prop} : slQ es (.ro s rows) lo hi none K = (es = s ∧ (0 ≤ lo ∧ lo ≤ hi.getD rows.length ∧ hi.getD rows.length ≤ rows.length) ∧ K (.ro s ((rows.take (hi.getD rows.length).toNat).drop lo.toNat))) := rfl
theorem slQ_nils {es : Nat} {lo : Int} {hi : Option Int} {K : AV → Prop} : slQ es .nils lo hi none K = ((lo = 0 ∧ hi.getD 0 = 0) ∧ K .nils) := rfl
end rules
/-! ### Words that go void -/
theorem killKT_app (Ks : List Nat) (T : Nat → Option AV) (t : Nat) : killKT Ks T t = (T t).map (killK Ks) := rfl
theorem killK_fr {Ks : List Nat} {v : AV} (h : refs v = []) : killK Ks v = v := by simp [killK, h]
theorem killK_int (Ks : List Nat) (k : IntKind) (n : Int) : killK Ks (.int k n) = .int k n := killK_fr rfl
theorem killK_bool_ (Ks : List Nat) (b : Bool) : killK Ks (.bool b) = .bool b := killK_fr rfl
theorem killK_str (Ks : List Nat) (b : ByteArray) : killK Ks (.str b) = .str b := killK_fr rfl
theorem killK_nils (Ks : List Nat) : killK Ks .nils = .nils := killK_fr rfl
theorem killK_nilp (Ks : List Nat) : killK Ks .nilp = .nilp := killK_fr rfl
theorem killK_junk (Ks : List Nat) : killK Ks .junk = .junk := killK_fr rfl
theorem killK_ro (Ks : List Nat) (s : Nat) (rows : List (List AV)) : killK Ks (.ro s rows) = .ro s rows := killK_fr rfl
theorem killK_rptr (Ks : List Nat) (cs : List AV) : killK Ks (.rptr cs) = .rptr cs := killK_fr rfl
theorem killK_tup0 (Ks : List Nat) : killK Ks (.tup []) = .tup [] := killK_fr rfl
theorem killK_sl (Ks : List Nat) (id s off len m : Nat) : killK Ks (.sl id s off len m) = if Ks.contains id then .junk else .sl id s off len m := by
  simp only [killK, refs, List.any_cons, List.any_nil, Bool.or_false]
theorem killK_ptr (Ks : List Nat) (id s i j : Nat) : killK Ks (.ptr id s i j) = if Ks.contains id then .junk else .ptr id s i j := by
  simp only [killK, refs, List.any_cons, List.any_nil, Bool.or_false]
theorem kill_K (id : Nat) (v : AV) : kill id v = killK [id] v := by
  simp only [kill, killK]
  congr 1
  simp only [eq_iff_iff, List.any_eq_true, List.contains_iff_mem]
  constructor
  · intro h; exact ⟨id, h, by simp⟩
  · rintro ⟨x, hx, hc⟩; simp at hc; subst hc; exact hx
theorem killH_nil (id : Nat) : killH id [] = [] := rfl
theorem killH_some (id : Nat) (s : Nat) (rows : List (List AV)) (H : List (Option Blk)) : killH id (some ⟨s, rows⟩ :: H) = some ⟨s, killR id rows⟩ :: killH id H := rfl
theorem killH_none (id : Nat) (H : List (Option Blk)) : killH id (none :: H) = none :: killH id H := rfl
theorem killR_nil (id : Nat) : killR id [] = [] := rfl
theorem killR_cons (id : Nat) (row : List AV) (rows : List (List AV)) : killR id (row :: rows) = row.map (killK [id]) :: killR id rows := by
  simp only [killR, List.map_cons]
  congr 1
  exact List.map_congr_left fun v _ => kill_K id v
theorem killR_app (id : Nat) (a b : List (List AV)) : killR id (a ++ b) = killR id a ++ killR id b := by simp [killR]
theorem killR_map {α : Type} (id : Nat) (a : List α) (f : α → List AV) (h : ∀ x, refsL (f x) = []) : killR id (a.map f) = a.map f := by
  simp only [killR, List.map_map]
  refine List.map_congr_left fun x _ => ?_
  have : ∀ l : List AV, refsL l = [] → l.map (kill id) = l := by
    intro l hl
    induction l with
    | nil => rfl
    | cons v l ih =>
      simp only [refsL, List.append_eq_nil_iff] at hl
      rw [List.map_cons, ih hl.2, kill_K, killK_fr hl.1]
  exact this _ (h x)
theorem killR_rowsI (id : Nat) (a : List Int) : killR id (rowsI a) = rowsI a := killR_map id a _ fun _ => rfl
theorem killR_rowsB (id : Nat) (a : List Bool) : killR id (rowsB a) = rowsB a := killR_map id a _ fun _ => rfl
theorem killR_rowsII (id : Nat) (a : List (List Int)) : killR id (rowsII a) = rowsII a := killR_map id a _ fun _ => rfl
theorem killR_rowsP (id : Nat) (a : List (Int × Int)) : killR id (rowsP a) = rowsP a := killR_map id a _ fun _ => rfl
theorem rowsI_app (a : List Int) (x : Int) : rowsI a ++ [[.int .i64 x]] = rowsI (a ++ [x]) := by simp [rowsI]
theorem rowsB_app (a : List Bool) (x : Bool) : rowsB a ++ [[.bool x]] = rowsB (a ++ [x]) := by simp [rowsB]
theorem rowsII_app (a : List (List Int)) (x : List Int) : rowsII a ++ [[.ro 1 (rowsI x)]] = rowsII (a ++ [x]) := by simp [rowsII]
theorem rowsP_app (a : List (Int × Int)) (x y : Int) : rowsP a ++ [[.int .i64 x, .int .i64 y]] = rowsP (a ++ [(x, y)]) := by simp [rowsP]
theorem rowsI_take (a : List Int) (n : Nat) : (rowsI a).take n = rowsI (a.take n) := by simp [rowsI, List.map_take]
theorem rowsB_take (a : List Bool) (n : Nat) : (rowsB a).take n = rowsB (a.take n) := by simp [rowsB, List.map_take]
theorem rowsII_take (a : List (List Int)) (n : Nat) : (rowsII a).take n = rowsII (a.take n) := by simp [rowsII, List.map_take]
theorem rowsP_take (a : List (Int × Int)) (n : Nat) : (rowsP a).take n = rowsP (a.take n) := by simp [rowsP, List.map_take]
theorem rowsI_drop (a : List Int) (n : Nat) : (rowsI a).drop n = rowsI (a.drop n) := by simp [rowsI, List.map_drop]
theorem rowsI_one (x : Int) : rowsI [x] = [[.int .i64 x]] := rfl
end
end Go.Aw

/- For the proofs: states that imply each other, as loops want them. -/
set_option linter.unusedVariables false
set_option linter.unusedSimpArgs false
namespace Go.Aw
open Go
section
variable {P : Program} {G : Glob} {N : Nat}

/-- The same blocks, shorter perhaps; the list of blocks longer or shorter by empty places. -/
theorem Imp.weak {T : Nat → Option AV} {H H' : List (Option Blk)} {M M' : List Nat} {l : List (Nat × AV)} (hT : ∀ p ∈ l, T p.1 = some p.2)
    (hH : ∀ (id : Nat) (b' : Blk), H'[id]? = some (some b') → ∃ b, H[id]? = some (some b) ∧ b'.s = b.s ∧ ∃ k, b'.rows = b.rows.take k)
    (hl : ∀ (id : Nat) (b : Blk), H[id]? = some (some b) → ∃ b', H'[id]? = some (some b')) (hM : ∀ id, id ∈ M → id ∈ M') : Imp G N ⟨T, H, M⟩ ⟨tab l, H', M'⟩ := fun ι F a w hr => by
  refine ⟨ι, F, ⟨fun t v hv => hr.t t v (tab_sub hT t v hv), ⟨⟨fun id b' hb' => ?_, fun id id' b b' g x g' x' h1 h2 h3 h4 => ?_, fun id b g x h1 h2 => ?_, hr.h.fz⟩, fun id x hx => ?_⟩, hr.g, hr.n, hr.d⟩, ⟨⟨Nat.le_refl _, fun _ _ _ => rfl, fun _ _ h => h, rfl, rfl, rfl, fun _ h => h, fun _ h => .inl h, fun g ⟨id, b, x, h1, h2⟩ => ?_⟩, fun c x hc hx => hx, hM⟩⟩
  · obtain ⟨b, hb, hs, k, hk⟩ := hH id b' hb'
    obtain ⟨h1, h2, h3⟩ := hr.h.blk id b hb
    have hget : ∀ (i : Nat) (row : List AV), b'.rows[i]? = some row → b.rows[i]? = some row := by
      intro i row hi
      rw [hk, List.getElem?_take] at hi
      split at hi
      · exact hi
      · cases hi
    refine ⟨fun i row hi => by rw [hs]; exact h1 i row (hget i row hi), fun h0 => by rw [hk, h2 h0, List.take_nil], fun g base hg => ?_⟩
    obtain ⟨cs, e, vals, h4, h5, h6, h7⟩ := h3 g base hg
    have hle : b'.rows.length ≤ b.rows.length := by rw [hk, List.length_take]; omega
    rw [hs]
    exact ⟨cs, e, vals, h4, Nat.le_trans (Nat.add_le_add_left (Nat.mul_le_mul_right _ hle) _) h5, fun i j hi hj => h6 i j (by omega) hj, fun i row j c hi hc => h7 i row j c (hget i row hi) hc⟩
  · obtain ⟨c, hc, _⟩ := hH id b h1
    obtain ⟨c', hc', _⟩ := hH id' b' h2
    exact hr.h.inj id id' c c' g x g' x' hc hc' h3 h4
  · obtain ⟨c, hc, _⟩ := hH id b h1
    exact hr.h.apart id c g x hc h2
  · obtain ⟨b, hb⟩ := hr.h.dom id x hx
    exact hl id b hb
  · obtain ⟨c, hc, _⟩ := hH id b h1
    exact .inl ⟨id, c, x, hc, h2⟩

/-- Places without a block at the end may go. -/
theorem Imp.trim {T : Nat → Option AV} {H : List (Option Blk)} {n : Nat} {M M' : List Nat} {l : List (Nat × AV)} (hT : ∀ p ∈ l, T p.1 = some p.2) (hM : ∀ id, id ∈ M → id ∈ M') : Imp G N ⟨T, H ++ List.replicate n none, M⟩ ⟨tab l, H, M'⟩ := by
  refine Imp.weak hT (fun id b' hb' => ⟨b', ?_, rfl, b'.rows.length, (List.take_length ..).symm⟩) (fun id b hb => ⟨b, get_nones hb⟩) hM
  rw [List.getElem?_append_left (List.getElem?_eq_some_iff.1 hb').1]
  exact hb'

/-- A nil slice is an own one of no element. -/
def Vt (slot es : Nat) (c c' : AV) : Prop := c' = c ∨ (c = .nils ∧ c' = .sl slot es 0 0 0)
theorem Vt.rel {w : World} {ι : Imap} {F : Nat → Prop} {slot es : Nat} {c c' : AV} {v : Value} (h : Vt slot es c c') (hv : VR w ι F c v) : VR w ι F c' v := by
  rcases h with rfl | ⟨rfl, rfl⟩
  · exact hv
  · cases hv with
    | fr h => cases h with
      | nils oa => exact .sl0 slot es 0 oa
theorem Imp.virt {st st' : St} {slot es : Nat} (hs : st.H[slot]? = none ∨ st.H[slot]? = some none) (hs' : st'.H[slot]? = some (some ⟨es, []⟩))
    (hT : ∀ t v, st'.T t = some v → ∃ c, st.T t = some c ∧ Vt slot es c v)
    (hH : ∀ (id : Nat) (b' : Blk), id ≠ slot → st'.H[id]? = some (some b') → ∃ b, st.H[id]? = some (some b) ∧ b'.s = b.s ∧ b'.rows.length = b.rows.length ∧ ∀ (i : Nat) (row row' : List AV), b.rows[i]? = some row → b'.rows[i]? = some row' → row'.length = row.length ∧ ∀ (j : Nat) (c c' : AV), row[j]? = some c → row'[j]? = some c' → Vt slot es c c')
    (hl : ∀ (id : Nat) (b : Blk), st.H[id]? = some (some b) → ∃ b', st'.H[id]? = some (some b')) (hM : st'.M = st.M) : Imp G N st st' := fun ι F a w hr => by
  have hno : ι slot = none := by
    cases hh : ι slot with
    | none => rfl
    | some x =>
      obtain ⟨b, hb⟩ := hr.h.dom slot x hh
      rcases hs with h | h <;> rw [h] at hb <;> cases hb
  have hne : ∀ {id : Nat} {x : Nat × Nat}, ι id = some x → id ≠ slot := by
    intro id x hx e; subst e; rw [hno] at hx; cases hx
  refine ⟨ι, F, ⟨fun t v hv => ?_, ⟨⟨fun id b' hb' => ?_, fun id id' b b' g x g' x' h1 h2 h3 h4 => ?_, fun id b g x h1 h2 => ?_, hr.h.fz⟩, fun id x hx => ?_⟩, hr.g, hr.n, hr.d⟩, ⟨⟨Nat.le_refl _, fun _ _ _ => rfl, fun _ _ h => h, rfl, rfl, rfl, fun _ h => h, fun _ h => .inl h, fun g ⟨id, b, x, h1, h2⟩ => ?_⟩, fun c x hc hx => hx, fun id h => by rw [hM]; exact h⟩⟩
  · obtain ⟨c, hc, hvt⟩ := hT t v hv
    obtain ⟨u, hu, hur⟩ := hr.t t c hc
    exact ⟨u, hu, hvt.rel hur⟩
  · by_cases hid : id = slot
    · subst hid
      rw [hs'] at hb'
      simp only [Option.some.injEq] at hb'
      subst hb'
      exact ⟨by simp, fun _ => rfl, fun g base hg => by rw [hno] at hg; cases hg⟩
    · obtain ⟨b, hb, he, hlen, hcells⟩ := hH id b' hid hb'
      obtain ⟨h1, h2, h3⟩ := hr.h.blk id b hb
      have hget : ∀ (i : Nat) (row' : List AV), b'.rows[i]? = some row' → ∃ row, b.rows[i]? = some row := fun i row' hi => get_len hlen hi
      refine ⟨fun i row' hi => ?_, fun h0 => List.eq_nil_of_length_eq_zero (by rw [hlen, h2 h0]; rfl), fun g base hg => ?_⟩
      · obtain ⟨row, hrow⟩ := hget i row' hi
        rw [(hcells i row row' hrow hi).1, he]
        exact h1 i row hrow
      · obtain ⟨cs, e, vals, h4, h5, h6, h7⟩ := h3 g base hg
        refine ⟨cs, e, vals, h4, by rw [hlen, he]; exact h5, fun i j hi hj => by rw [he] at hj ⊢; exact h6 i j (by omega) hj, fun i row' j c' hi hc => ?_⟩
        obtain ⟨row, hrow⟩ := hget i row' hi
        obtain ⟨hl2, hc2⟩ := hcells i row row' hrow hi
        obtain ⟨c, hc0⟩ := get_len hl2 hc
        exact (hc2 j c c' hc0 hc).rel (h7 i row j c hrow hc0)
  · obtain ⟨c, hc, _⟩ := hH id b (hne h3) h1
    obtain ⟨c', hc', _⟩ := hH id' b' (hne h4) h2
    exact hr.h.inj id id' c c' g x g' x' hc hc' h3 h4
  · obtain ⟨c, hc, _⟩ := hH id b (hne h2) h1
    exact hr.h.apart id c g x hc h2
  · obtain ⟨b, hb⟩ := hr.h.dom id x hx
    exact hl id b hb
  · obtain ⟨c, hc, _⟩ := hH id b (hne h2) h1
    exact .inl ⟨id, c, x, hc, h2⟩
end
end Go.Aw
