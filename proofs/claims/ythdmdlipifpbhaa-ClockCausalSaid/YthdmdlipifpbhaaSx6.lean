/-
  A symbolic executor for the model's code: the operations that change known memory.
-/
import Derived.Test.YthdmdlipifpbhaaSx5
namespace Go.Proofs.Ythdmdlipifpbhaa.Sx
open Go Go.RowKit

section
variable {P : Program} {T : Tab} {ρ : Env} {sl : List Slot} {a : Act} {K : Lim} {W w0 : World} {m : List MBlk} {o : Oper}

theorem oneCell_val {x : SV} {v : Value} (h : oneCell x = true) (hd : Den ρ x v) : v.oneCell' = true := by
  cases hd <;> first | rfl | simp [oneCell] at h

theorem allOne_val {xs : List SV} {vs : List Value} (h : allOne xs = true) (hd : DenL ρ xs vs) : ∀ v ∈ vs, v.oneCell' = true := by
  induction xs generalizing vs with
  | nil => obtain rfl := hd.inv_nil; intro v hv; cases hv
  | cons x r ih =>
    obtain ⟨v, ws, rfl, h1, h2⟩ := hd.inv
    simp only [allOne, Bool.and_eq_true] at h
    intro u hu
    rcases List.mem_cons.1 hu with rfl | hu
    · exact oneCell_val h.1 h1
    · exact ih h.2 h2 u hu

theorem add_lit' (g off j : Nat) : (Addr.add ⟨g, off, none⟩ j) = ⟨g, off + j, none⟩ := by unfold Addr.add; split <;> simp_all

/-- A value's cells written into a block of the run's own. -/
theorem run_storeCells_own {g t : Nat} (off : Nat) : ∀ (us : List Value) (i : Nat) (W : World) (vs : Array Value), W.heap[g]? = some (.cells vs t (0, 0)) → off + i + us.length ≤ vs.size → (∀ u ∈ us, u.oneCell' = true) →
    ∃ (W' : World) (vs' : Array Value), (storeCells ⟨g, off, none⟩ us i).run P W = .ok () W' ∧ W'.heap[g]? = some (.cells vs' t (0, 0)) ∧ vs'.size = vs.size ∧ (∀ j, vs'[j]? = if off + i ≤ j ∧ j < off + i + us.length then us[j - (off + i)]? else vs[j]?) ∧ W.grownBy W' (some g) ∧ W'.heap.size = W.heap.size := by
  intro us
  induction us with
  | nil =>
    intro i W vs hg _ _
    exact ⟨W, vs, by simp [storeCells], hg, rfl, fun j => by simp; omega, World.grownBy.refl W _, rfl⟩
  | cons u us ih =>
    intro i W vs hg hl ho
    simp only [List.length_cons] at hl
    have hcell : W.cell? ⟨g, off + i, none⟩ = vs[off + i]? := cell_of_row W g (off + i) vs t (0, 0) hg
    have hlt : off + i < vs.size := by omega
    have hfr : W.frozen? ⟨g, off + i, none⟩ = false := frozen_of_row W g (off + i) vs t hg
    have hst : (store ⟨g, off + i, none⟩ u).run P W = .ok () (W.setCell ⟨g, off + i, none⟩ u) := by
      rw [run_store P W _ u _ (ho u (by simp)), hcell, Array.getElem?_eq_getElem hlt]
      simp [hfr]
    have hg1 := heap_setCell_same W g (off + i) vs t u hg
    obtain ⟨W', vs', h1, h2, h3, h4, h5, h6⟩ := ih (i + 1) (W.setCell ⟨g, off + i, none⟩ u) (vs.setIfInBounds (off + i) u) hg1 (by simp; omega) (fun x hx => ho x (by simp [hx]))
    refine ⟨W', vs', ?_, h2, by rw [h3]; simp, fun j => ?_, ?_, by rw [h6]; simp⟩
    · simp only [storeCells, Sem.run_bind, add_lit', hst, Result.andThen_ok]
      exact h1
    · rw [h4 j]
      simp only [List.length_cons]
      by_cases c1 : off + (i + 1) ≤ j ∧ j < off + (i + 1) + us.length
      · rw [if_pos c1, if_pos (by omega), show j - (off + i) = (j - (off + (i + 1))) + 1 by omega, List.getElem?_cons_succ]
      · rw [if_neg c1]
        by_cases c2 : j = off + i
        · subst c2
          rw [if_pos (by omega), Array.getElem?_setIfInBounds_self_of_lt hlt]
          simp
        · rw [if_neg (by omega), Array.getElem?_setIfInBounds_ne (by omega)]
    · have s1 : W.grownBy (W.setCell ⟨g, off + i, none⟩ u) (some g) := ⟨rfl, rfl, rfl, by simp, fun k _ hne => Below.heap_setCell _ _ _ _ (fun e => hne (by rw [e]))⟩
      exact ⟨h5.os.trans s1.os, h5.tape.trans s1.tape, h5.output.trans s1.output, Nat.le_trans s1.size h5.size, fun k hk hne => (h5.block k (Nat.lt_of_lt_of_le hk s1.size) hne).trans (s1.block k hk hne)⟩

/-- An entry that does not lie in the block that was written. -/
theorem BR.other {row : Option Nat} {r : Nat} {k : MBlk} {W' : World} (hS : ∀ g, ρ.S g → g < W.heap.size) (hno : ∀ g, row = some g → ¬ ρ.S g) (h : BR ρ W r k) (hg : W.grownBy W' row) (hne : ∀ a c, ownOf k = true → ρ r = some (some a, c) → row ≠ some a.block) : BR ρ W' r k := by
  have hk : ∀ g, ρ.S g → W'.heap[g]? = W.heap[g]? := fun g hs => hg.block g (hS g hs) (fun e => hno g e.symm hs)
  have hc : ∀ {col : Col} {j : Nat} {v : Value}, colDen ρ.R W col j v → colDen ρ.R W' col j v := fun h => colDen_later h (fun _ h => h) (fun g hg => hk g hg.1)
  cases k with
  | cells cs =>
    obtain ⟨b, t, vs, c, h1, h2, h3, h4⟩ := h
    exact ⟨b, t, vs, c, h1, h2, (hg.block b (Array.getElem?_eq_some_iff.1 h3).1 (fun e => hne _ _ rfl h1 e.symm)).trans h3, h4⟩
  | old cs =>
    obtain ⟨a, c, h1, h2, h3⟩ := h
    refine ⟨a, c, h1, h2, fun j x hx => ?_⟩
    obtain ⟨v, hv, hd⟩ := h3 j x hx
    exact ⟨v, (World.cell?_of_block (hk _ (by rw [block_add]; exact h2))).trans hv, hd⟩
  | arr n cols =>
    obtain ⟨A, c, h1, hn0, h2⟩ := h
    refine ⟨A, c, h1, hn0, fun hn => ?_⟩
    obtain ⟨a, ha, hlt, h3⟩ := h2 hn
    refine ⟨a, ha, hlt, fun j hj k col hcol => ?_⟩
    obtain ⟨v, hv, hd⟩ := h3 j hj k col hcol
    exact ⟨v, (World.cell?_of_block (hk _ (by rw [block_add]; exact hlt))).trans hv, hc hd⟩
  | oarr e n cols =>
    obtain ⟨A, c, vs, h1, h2, h3, h4, h5⟩ := h
    refine ⟨A, c, vs, h1, h2.kept hg ?_, h3, h4, fun j hj k col hcol => ?_⟩
    · cases A with
      | none => exact .inl rfl
      | some a => exact .inr (fun e => hne a c rfl h1 (by simpa [Value.ownBlock] using e.symm))
    · obtain ⟨v, hv, hd⟩ := h5 j hj k col hcol
      exact ⟨v, hv, hc hd⟩
  | mapi k k' f =>
    obtain ⟨b, es, clock, c, h1, h2, h3, h4⟩ := h
    exact ⟨b, es, clock, c, h1, h2, (hg.block b (Array.getElem?_eq_some_iff.1 h3).1 (fun e => hne _ _ rfl h1 e.symm)).trans h3, h4⟩
  | mapp f =>
    obtain ⟨b, es, clock, c, h1, h2, h3, h4⟩ := h
    exact ⟨b, es, clock, c, h1, h2, (hg.block b (Array.getElem?_eq_some_iff.1 h3).1 (fun e => hne _ _ rfl h1 e.symm)).trans h3, h4⟩
  | gone => trivial

theorem get_killMem (l : List Nat) (m : List MBlk) (r : Nat) : (killMem l m)[r]? = (m[r]?).map (fun k => match k with | .cells cs => .cells (killCells l cs) | .old cs => .old (killCells l cs) | k => k) := by
  induction m generalizing r with
  | nil => simp [killMem]
  | cons k m ih =>
    cases r with
    | zero => cases k <;> simp [killMem]
    | succ r => cases k <;> simp [killMem, ih]
theorem length_killMem (l : List Nat) (m : List MBlk) : (killMem l m).length = m.length := by
  induction m with
  | nil => rfl
  | cons k m ih => cases k <;> simp [killMem, ih]

/-- An entry, where only what is struck has turned; more blocks that do not turn, but not its own. -/
theorem BR.struck {r : Nat} {k : MBlk} {σ : Env} {l : List Nat} (h : BR ρ W r k) (hr : r ∉ l) (hle : ∀ r y, r ∉ l → ρ r = some y → σ r = some y) (hS : ∀ g, ρ.S g → σ.S g) (hT : ∀ g, ρ.T g → σ.T g) (hno : ∀ a c, ownOf k = true → ρ r = some (some a, c) → ¬ σ.S a.block) : BR σ W r (match k with | .cells cs => .cells (killCells l cs) | .old cs => .old (killCells l cs) | k => k) := by
  have hc : ∀ {col : Col} {j : Nat} {v : Value}, colDen ρ.R W col j v → colDen σ.R W col j v := fun h => colDen_later h (fun g hg => ⟨hS g hg.1, hT g hg.2⟩) (fun _ _ => rfl)
  cases k with
  | cells cs =>
    obtain ⟨g, t, vs, c, h1, h2, h3, h4⟩ := h
    exact ⟨g, t, vs, c, hle _ _ hr h1, hno _ _ rfl h1, h3, h4.kill hle⟩
  | old cs =>
    obtain ⟨a, c, h1, h2, h3⟩ := h
    refine ⟨a, c, hle _ _ hr h1, hS _ h2, fun j x hx => ?_⟩
    rw [get_killCells, Option.map_eq_some_iff] at hx
    obtain ⟨y, hy, rfl⟩ := hx
    obtain ⟨v, hv, hd⟩ := h3 j y hy
    exact ⟨v, hv, hd.kill hle⟩
  | arr n cols =>
    obtain ⟨A, c, h1, hn0, h2⟩ := h
    refine ⟨A, c, hle _ _ hr h1, hn0, fun hn => ?_⟩
    obtain ⟨a, ha, hlt, h3⟩ := h2 hn
    refine ⟨a, ha, hS _ hlt, fun j hj k col hcol => ?_⟩
    obtain ⟨v, hv, hd⟩ := h3 j hj k col hcol
    exact ⟨v, hv, hc hd⟩
  | oarr e n cols =>
    obtain ⟨A, c, vs, h1, h2, h3, h4, h5⟩ := h
    refine ⟨A, c, vs, hle _ _ hr h1, h2, fun a ha => hno a c rfl (by rw [h1, ha]), h4, fun j hj k col hcol => ?_⟩
    obtain ⟨v, hv, hd⟩ := h5 j hj k col hcol
    exact ⟨v, hv, hc hd⟩
  | mapi k k' f =>
    obtain ⟨g, es, clock, c, h1, h2, h3, h4⟩ := h
    exact ⟨g, es, clock, c, hle _ _ hr h1, hno _ _ rfl h1, h3, h4⟩
  | mapp f =>
    obtain ⟨g, es, clock, c, h1, h2, h3, h4⟩ := h
    exact ⟨g, es, clock, c, hle _ _ hr h1, hno _ _ rfl h1, h3, h4⟩
  | gone => trivial

theorem killSV_nil (x : SV) : killSV [] x = x := by
  have h1 : ∀ (y : SV), y.refs [] = false := by
    intro y
    induction y using SV.rec (motive_2 := fun xs => refsL xs [] = false) <;> simp_all [SV.refs, refsL, memN]
  simp [killSV, h1]
theorem killCells_nil (xs : List SV) : killCells [] xs = xs := by
  induction xs with
  | nil => rfl
  | cons x r ih => simp [killCells, ih, killSV_nil]
theorem killMem_nil (m : List MBlk) : killMem [] m = m := by
  induction m with
  | nil => rfl
  | cons k m ih => cases k <;> simp [killMem, ih, killCells_nil]
theorem killSlots_nil (sl : List Slot) : killSlots [] sl = sl := by
  induction sl with
  | nil => rfl
  | cons s r ih => cases s; simp [killSlots, ih, killSV_nil]

/-- What an operation that changes known memory leaves. -/
def BPost (K : Lim) (w0 : World) (ρ : Env) (m : List MBlk) (b : BRes) (v : Value) (W' : World) : Prop :=
  ∃ σ : Env, (∀ r y, r ∉ b.kill → ρ r = some y → σ r = some y) ∧ Den σ b.sv v ∧ MR K w0 W' σ (updMem (killMem b.kill m) b.upd ++ b.new)

/-- One entry turned: its own block was written, or it lies in a new one. The other entries as they were. -/
theorem MR.turn {W' : World} {row : Option Nat} {r : Nat} {k0 k' : MBlk} {x : Option Addr × Nat} (hm : MR K w0 W ρ m) (hr : m[r]? = some k0) (h0 : ownOf k0 = true) (hρr : ρ r ≠ none) (hg : W.grownBy W' row) (hrow : ∀ g, row = some g → ∃ a c, ρ r = some (some a, c) ∧ a.block = g)
    (hx : ∀ a, x.1 = some a → (∃ b c, ρ r = some (some b, c) ∧ b.block = a.block) ∨ W.heap.size ≤ a.block) (hk : BR (ρ.with r x) W' r k') :
    MR K w0 W' (ρ.with r x) (setAt (killMem [r] m) r k') := by
  have hrm : r < m.length := (List.getElem?_eq_some_iff.1 hr).1
  have hno : ∀ g, row = some g → ¬ ρ.S g := fun g e => by
    obtain ⟨a, c, ha, rfl⟩ := hrow g e
    exact (own_lt (hm.blk r k0 hr hρr) h0 ha).1
  have hσk : ∀ s y, s ∉ [r] → ρ s = some y → (ρ.with r x) s = some y := fun s y hs hy => by rw [Env.with_ne _ _ (by simpa using hs)]; exact hy
  have hne : ∀ s l, m[s]? = some l → s ≠ r → ∀ b d, ownOf l = true → ρ s = some (some b, d) → ∀ a, x.1 = some a → b.block ≠ a.block := fun s l hl hsr b d ho hb a ha e => by
    rcases hx a ha with ⟨b', c', hb', e'⟩ | hge
    · exact hsr (hm.sep s r l k0 b b' d c' hl hr ho h0 hb hb' (e.trans e'.symm))
    · have := (own_lt (hm.blk s l hl (by rw [hb]; simp)) ho hb).2
      omega
  refine ⟨hm.sub, fun g hg => hm.rows g hg, fun g hs => Nat.lt_of_lt_of_le (hm.hS g hs) hg.size, hm.below.trans (.of_grown hg fun g hs => ⟨hm.hS g (hm.sub g hs), fun e => hno g e (hm.sub g hs)⟩), fun s l hl hs' => ?_, fun s hs' => ?_, ?_⟩
  · rw [get_setAt, length_killMem] at hl
    by_cases e : s = r
    · subst e
      rw [if_pos ⟨rfl, hrm⟩] at hl
      simp only [Option.some.injEq] at hl
      subst hl
      exact hk
    · rw [if_neg (by omega), get_killMem, Option.map_eq_some_iff] at hl
      obtain ⟨l0, hl0, rfl⟩ := hl
      have hne' : ρ s ≠ none := by rw [← Env.with_ne ρ x e]; exact hs'
      have hw := (hm.blk s l0 hl0 hne').other hm.hS hno hg (fun a c ho ha e2 => by
        obtain ⟨a', c', ha', e3⟩ := hrow _ e2
        exact e (hm.sep s r l0 k0 a a' c c' hl0 hr ho h0 ha ha' e3.symm))
      have hst := hw.struck (by simpa using e) hσk (fun g (h : ρ.S g) => h) (fun g (h : ρ.T g) => h) (fun a c ho ha => (own_lt hw ho ha).1)
      cases l0 <;> exact hst
  · rw [length_setAt, length_killMem]
    by_cases e : s = r
    · subst e; exact hrm
    · exact hm.dom s (by rw [← Env.with_ne ρ x e]; exact hs')
  · have key : ∀ {s : Nat} {l : MBlk}, s ≠ r → (setAt (killMem [r] m) r k')[s]? = some l → ∃ l0, m[s]? = some l0 ∧ ownOf l0 = ownOf l := fun {s l} hs hl => by
      rw [get_setAt, length_killMem, if_neg (by omega), get_killMem, Option.map_eq_some_iff] at hl
      obtain ⟨l0, hl0, rfl⟩ := hl
      exact ⟨l0, hl0, by cases l0 <;> rfl⟩
    intro s1 s2 l1 l2 a1 a2 c1 c2 hl1 hl2 ho1 ho2 hr1 hr2 hb
    by_cases e1 : s1 = r <;> by_cases e2 : s2 = r
    · rw [e1, e2]
    · subst e1
      obtain ⟨q, hq, eq⟩ := key e2 hl2
      rw [Env.with_same, Option.some.injEq] at hr1
      rw [Env.with_ne _ _ e2] at hr2
      exact absurd hb.symm (hne s2 q hq e2 a2 c2 (eq.trans ho2) hr2 a1 (by rw [hr1]))
    · subst e2
      obtain ⟨q, hq, eq⟩ := key e1 hl1
      rw [Env.with_same, Option.some.injEq] at hr2
      rw [Env.with_ne _ _ e1] at hr1
      exact absurd hb (hne s1 q hq e1 a1 c1 (eq.trans ho1) hr1 a2 (by rw [hr2]))
    · obtain ⟨q1, hq1, eq1⟩ := key e1 hl1
      obtain ⟨q2, hq2, eq2⟩ := key e2 hl2
      rw [Env.with_ne _ _ e1] at hr1
      rw [Env.with_ne _ _ e2] at hr2
      exact hm.sep s1 s2 q1 q2 a1 a2 c1 c2 hq1 hq2 (eq1.trans ho1) (eq2.trans ho2) hr1 hr2 hb

/-- The same where the entry's address stays: nothing is struck. -/
theorem MR.keep {W' : World} {row : Option Nat} {r : Nat} {k0 k' : MBlk} (hm : MR K w0 W ρ m) (hr : m[r]? = some k0) (h0 : ownOf k0 = true) (hρr : ρ r ≠ none) (hg : W.grownBy W' row) (hrow : ∀ g, row = some g → ∃ a c, ρ r = some (some a, c) ∧ a.block = g)
    (hk : BR ρ W' r k') : MR K w0 W' ρ (setAt m r k') := by
  have hrm : r < m.length := (List.getElem?_eq_some_iff.1 hr).1
  have hno : ∀ g, row = some g → ¬ ρ.S g := fun g e => by
    obtain ⟨a, c, ha, rfl⟩ := hrow g e
    exact (own_lt (hm.blk r k0 hr hρr) h0 ha).1
  refine ⟨hm.sub, hm.rows, fun g hs => Nat.lt_of_lt_of_le (hm.hS g hs) hg.size, hm.below.trans (.of_grown hg fun g hs => ⟨hm.hS g (hm.sub g hs), fun e => hno g e (hm.sub g hs)⟩), fun s l hl hs' => ?_, fun s hs' => by rw [length_setAt]; exact hm.dom s hs', ?_⟩
  · rw [get_setAt] at hl
    by_cases e : s = r
    · subst e
      rw [if_pos ⟨rfl, hrm⟩] at hl
      simp only [Option.some.injEq] at hl
      subst hl
      exact hk
    · rw [if_neg (by omega)] at hl
      exact (hm.blk s l hl hs').other hm.hS hno hg (fun a c ho ha e2 => by
        obtain ⟨a', c', ha', e3⟩ := hrow _ e2
        exact e (hm.sep s r l k0 a a' c c' hl hr ho h0 ha ha' e3.symm))
  · have key : ∀ {s : Nat} {l : MBlk}, (setAt m r k')[s]? = some l → ownOf l = true → ∃ l0, m[s]? = some l0 ∧ ownOf l0 = true := fun {s l} hl ho => by
      rw [get_setAt] at hl
      by_cases e : s = r
      · subst e; exact ⟨k0, hr, h0⟩
      · rw [if_neg (by omega)] at hl
        exact ⟨l, hl, ho⟩
    intro s1 s2 k1 k2 a1 a2 c1 c2 hk1 hk2 ho1 ho2 hr1 hr2 hb
    obtain ⟨l1, hl1, e1⟩ := key hk1 ho1
    obtain ⟨l2, hl2, e2⟩ := key hk2 ho2
    exact hm.sep s1 s2 l1 l2 a1 a2 c1 c2 hl1 hl2 e1 e2 hr1 hr2 hb

theorem updCols_eq : ∀ {cs : List Col} {off ix : Nat} {vs : List SV} {cs' : List Col}, updCols cs off ix vs = some cs' → cs'.length = cs.length ∧ (0 < vs.length → off + vs.length ≤ cs.length) ∧
    ∀ (k : Nat) (c' : Col), cs'[k]? = some c' → ∃ c, cs[k]? = some c ∧ (if off ≤ k ∧ k < off + vs.length then ∃ x, vs[k - off]? = some x ∧ updCol c ix x = some c' else c' = c) := by
  intro cs
  induction cs with
  | nil =>
    intro off ix vs cs' h
    cases off <;> cases vs <;> simp [updCols] at h
    subst h
    simp
  | cons c r ih =>
    intro off ix vs cs' h
    cases off with
    | zero =>
      cases vs with
      | nil =>
        simp only [updCols, Option.some.injEq] at h
        subst h
        refine ⟨rfl, by simp, fun k c' hk => ⟨c', hk, by simp⟩⟩
      | cons v vs =>
        simp only [updCols] at h
        split at h
        · rename_i c1 r1 hc1 hr1
          simp only [Option.some.injEq] at h
          subst h
          obtain ⟨h1, h2, h3⟩ := ih hr1
          refine ⟨by simp [h1], fun _ => ?_, fun k c' hk => ?_⟩
          · cases vs with
            | nil => simp
            | cons => simp at h2 ⊢; omega
          cases k with
          | zero => simp at hk; subst hk; exact ⟨c, rfl, by simp [hc1]⟩
          | succ k =>
            obtain ⟨c0, hc0, hcc⟩ := h3 k c' (by simpa using hk)
            refine ⟨c0, by simpa using hc0, ?_⟩
            by_cases hb : 0 ≤ k ∧ k < 0 + vs.length
            · rw [if_pos hb] at hcc
              rw [if_pos (by simp; omega)]
              simpa using hcc
            · rw [if_neg hb] at hcc
              rw [if_neg (by simp; omega)]
              exact hcc
        · cases h
    | succ off =>
      simp only [updCols] at h
      split at h
      · rename_i r1 hr1
        simp only [Option.some.injEq] at h
        subst h
        obtain ⟨h1, h2, h3⟩ := ih hr1
        refine ⟨by simp [h1], fun h0 => by have := h2 h0; simp; omega, fun k c' hk => ?_⟩
        cases k with
        | zero => simp at hk; subst hk; exact ⟨c, rfl, by simp⟩
        | succ k =>
          obtain ⟨c0, hc0, hcc⟩ := h3 k c' (by simpa using hk)
          refine ⟨c0, by simpa using hc0, ?_⟩
          by_cases hb : off ≤ k ∧ k < off + vs.length
          · rw [if_pos hb] at hcc
            rw [if_pos (by omega), show k + 1 - (off + 1) = k - off by omega]
            exact hcc
          · rw [if_neg hb] at hcc
            rw [if_neg (by omega)]
            exact hcc
      · cases h
theorem updCol_at {S : Nat → Prop} {W' : World} {c c' : Col} {ix : Nat} {x : SV} {u : Value} (h : updCol c ix x = some c') (hd : Den ρ x u) : colDen S W' c' ix u := by
  unfold updCol at h
  split at h
  · rename_i k g k' a
    cases hk : kEq k k'
    · simp [hk] at h
    · simp only [hk, cond_true, Option.some.injEq] at h
      subst h
      obtain rfl := kEq_iff.1 hk
      simp only [colDen, Nat.beq_refl, cond_true]
      exact hd.i_inv
  · split at h
    · rename_i b hb
      simp only [Option.some.injEq] at h
      subst h
      simp only [colDen, Nat.beq_refl, cond_true]
      exact hd.bOf hb
    · cases h
  · cases h
theorem updCol_off {S : Nat → Prop} {W' : World} {c c' : Col} {ix j : Nat} {x : SV} {u : Value} (h : updCol c ix x = some c') (hj : j ≠ ix) (hd : colDen S W' c j u) : colDen S W' c' j u := by
  have hb : Nat.beq j ix = false := Bool.eq_false_iff.2 fun e => hj (Nat.eq_of_beq_eq_true e)
  unfold updCol at h
  split at h
  · rename_i k g k' a
    cases hk : kEq k k'
    · simp [hk] at h
    · simp only [hk, cond_true, Option.some.injEq] at h
      subst h
      simp only [colDen, hb, cond_false] at hd ⊢
      exact hd
  · split at h
    · simp only [Option.some.injEq] at h
      subst h
      simp only [colDen, hb, cond_false] at hd ⊢
      exact hd
    · cases h
  · cases h

theorem sB_store {t : Nat} {x y : Operand} {b : BRes} (hT : TabOk P T) (hG : GlobOk T ρ) (hm : MR K w0 W ρ m) (ho : o.op = .store t x y) (hs : OpsOk ρ sl a [x, y]) (h : stepB T sl m [] (.store t x y) = some b) (hp : ∀ p ∈ b.pre, p) :
    OpTo P a o W (BPost K w0 ρ m b) := by
  have hc : sat a [] := fun q w hq => by cases hq
  simp only [stepB] at h
  split at h
  · rename_i ti r off v hti hx hy
    obtain ⟨p, k', hρ, ex⟩ := (useOp_den hG hx (hs.sub (by simp)) hc).ptr_inv
    have hdy := useOp_den hG hy (hs.sub (by simp)) hc
    split at h
    · rename_i cs xs hcs hxs
      cases hk : (Nat.beq xs.length ti.size && allOne xs)
      · simp [hk] at h
      · simp only [hk, cond_true] at h
        rw [Bool.and_eq_true] at hk
        have hlen := Nat.eq_of_beq_eq_true hk.1
        split at h
        · rename_i cs' hw
          simp only [Option.some.injEq] at h
          subst h
          have hcs := nthM hcs
          obtain ⟨w1, w2, w3⟩ := writeAt_eq hw
          obtain ⟨us, hu, hud⟩ := cellsOf_den hxs hdy
          obtain ⟨g, ty, vs, c, h1, h2, h3, h4⟩ := hm.blk r _ hcs (by rw [hρ]; simp)
          rw [hρ] at h1
          simp only [Option.some.injEq, Prod.mk.injEq] at h1
          obtain ⟨rfl, _⟩ := h1
          obtain ⟨i, hi, hsz, _, _⟩ := tiChk_info (hT.types t ti hti)
          have hul : us.length = ti.size := by rw [hud.1, hlen]
          have hvl : vs.length = cs.length := h4.1
          obtain ⟨W', vs', r1, r2, r3, r4, r5, r6⟩ := run_storeCells_own (P := P) off us 0 W vs.toArray h3 (by simp; omega) (allOne_val hk.2 hud)
          have hrun : (execOp a.eval o).run P W = .ok .skip W' := by
            have e1 : (Addr.add ⟨g, 0, none⟩ off) = ⟨g, off, none⟩ := by rw [add_lit']; simp
            simp only [execOp, ho, ex, Instr.storeAt, Instr.sureAddr, e1, Sem.run_bind, Sem.run_pure, Result.andThen_ok]
            have e2 : (storeVar t ⟨g, off, none⟩ (a.eval y)).run P W = .ok () W' := by
              simp [storeVar, sizeOf, typeInfo, hi, hsz, hu, hul, r1]
            simp [e2]
          unfold OpTo
          rw [hrun]
          refine ⟨ρ, fun r y _ h => h, .v _, ?_⟩
          simp only [killMem_nil, updMem, List.append_nil]
          refine hm.keep hcs rfl (by rw [hρ]; simp) r5 (fun g' e => by injection e with e; exact ⟨_, _, hρ, e⟩) ⟨g, ty, vs'.toList, k', hρ, h2, by simpa using r2, ?_⟩
          refine ⟨by rw [w1]; simp [r3, hvl], fun j z v hz hv => ?_⟩
          have hv' : vs'[j]? = some v := by simpa using hv
          rw [r4 j] at hv'
          rw [w3 j] at hz
          simp only [Nat.add_zero] at hv'
          by_cases hj : off ≤ j ∧ j < off + us.length
          · rw [if_pos hj] at hv'
            rw [if_pos (by omega)] at hz
            exact hud.2 _ z v hz hv'
          · rw [if_neg hj] at hv'
            rw [if_neg (by omega)] at hz
            exact h4.2 j z v hz (by simpa using hv')
        · cases h
    · cases h
  · rename_i ti r sz ix off v hti hx hy
    obtain ⟨p, k', hρ, ex⟩ := (useOp_den hG hx (hs.sub (by simp)) hc).pix_inv
    have hdy := useOp_den hG hy (hs.sub (by simp)) hc
    split at h
    · rename_i e n cols xs hr hxs
      cases hk : (Nat.beq xs.length ti.size && allOne xs && Nat.beq sz cols.length && Nat.ble 1 xs.length)
      · rw [hk] at h; cases h
      · simp only [hk, cond_true] at h
        simp only [Bool.and_eq_true] at hk
        have hlen := Nat.eq_of_beq_eq_true hk.1.1.1
        have hszl := Nat.eq_of_beq_eq_true hk.1.2
        have hx1 := Nat.le_of_ble_eq_true hk.2
        split at h
        · rename_i cols' hw
          simp only [Option.some.injEq] at h
          subst h
          have hix : ix < n := hp _ (by simp)
          have hr := nthM hr
          obtain ⟨w1, w2, w3⟩ := updCols_eq hw
          have w2 := w2 (by omega)
          obtain ⟨us, hu, hud⟩ := cellsOf_den hxs hdy
          obtain ⟨A, c, vs, h1, h2, h3, h4, h5⟩ := hm.blk r _ hr (by rw [hρ]; simp)
          rw [hρ] at h1
          simp only [Option.some.injEq, Prod.mk.injEq] at h1
          obtain ⟨rfl, rfl⟩ := h1
          obtain ⟨i, hi, hsz, _, _⟩ := tiChk_info (hT.types t ti hti)
          have hul : us.length = ti.size := by rw [hud.1, hlen]
          obtain ⟨hl0, h4'⟩ := h2
          rcases h4' with ⟨h4', _⟩ | ⟨g, cap, cur, h4', _, hh, hnc, hcm, hcs, htk⟩
          · cases h4'
          · simp only [Value.slice.injEq, Option.some.injEq, true_and] at h4'
            obtain ⟨rfl, rfl⟩ := h4'
            have hfit : (ix + 1) * cols.length ≤ k' * cols.length := Nat.mul_le_mul_right _ (by omega)
            rw [Nat.succ_mul] at hfit
            have hxu : xs.length = us.length := by rw [hul, hlen]
            obtain ⟨W', vs', r1, r2, r3, r4, r5, r6⟩ := run_storeCells_own (P := P) (ix * sz + off) us 0 W cur hh (by rw [hcs, hszl]; omega) (allOne_val hk.1.1.2 hud)
            have hrun : (execOp a.eval o).run P W = .ok .skip W' := by
              have e1 : (Addr.add ⟨g, 0, none⟩ (ix * sz + off)) = ⟨g, ix * sz + off, none⟩ := by rw [add_lit']; simp
              simp only [execOp, ho, ex, Instr.storeAt, Instr.sureAddr, e1, Sem.run_bind, Sem.run_pure, Result.andThen_ok]
              have e2 : (storeVar t ⟨g, ix * sz + off, none⟩ (a.eval y)).run P W = .ok () W' := by
                simp [storeVar, sizeOf, typeInfo, hi, hsz, hu, hul, r1]
              simp [e2]
            unfold OpTo
            rw [hrun]
            refine ⟨ρ, fun r y _ h => h, .v _, ?_⟩
            simp only [killMem_nil, updMem, List.append_nil]
            have hnk : n * cols.length ≤ k' * cols.length := Nat.mul_le_mul_right _ hnc
            have htake' : (vs'.toList.take (n * cols'.length)).length = n * cols'.length := by
              have h1 : vs'.toList.length = k' * cols.length := by simp [r3, hcs]
              rw [List.length_take, w1, h1]
              omega
            refine hm.keep hr rfl (by rw [hρ]; simp) r5 (fun g' e => by injection e with e; exact ⟨_, _, hρ, e⟩) ⟨_, k', vs'.toList.take (n * cols'.length), hρ, ⟨htake', .inr ⟨g, k', vs', rfl, Nat.zero_le _, r2, hnc, hcm, by rw [r3, hcs, w1], rfl⟩⟩, h3, by omega, fun j hj k col hcol => ?_⟩
            obtain ⟨c0, hc0, hcc⟩ := w3 k col hcol
            have hkl := (List.getElem?_eq_some_iff.1 hc0).1
            obtain ⟨u0, hu0, hd0⟩ := h5 j hj k c0 hc0
            have hjn : (j + 1) * cols.length ≤ n * cols.length := Nat.mul_le_mul_right _ hj
            rw [Nat.succ_mul] at hjn
            have hin : j * cols.length + k < n * cols.length := by omega
            have hS2 : ∀ g', ρ.S g' → W'.heap[g']? = W.heap[g']? := fun g' hs => r5.block g' (hm.hS g' hs) (fun e => by injection e with e; subst e; exact h3 _ rfl hs)
            have hcur : cur[j * cols.length + k]? = some u0 := by
              rw [← htk, List.getElem?_take, if_pos hin] at hu0
              simpa using hu0
            rw [w1, List.getElem?_take, if_pos hin]
            have hr4 := r4 (j * cols.length + k)
            simp only [Nat.add_zero, hszl] at hr4
            by_cases hji : j = ix
            · subst hji
              by_cases hko : off ≤ k ∧ k < off + us.length
              · rw [if_pos (by omega), show j * cols.length + k - (j * cols.length + off) = k - off by omega] at hr4
                rw [if_pos (by omega)] at hcc
                obtain ⟨x, hx, hup⟩ := hcc
                obtain ⟨u, hu, hdu⟩ := hud.get hx
                exact ⟨u, by rw [hu] at hr4; simpa using hr4, updCol_at hup hdu⟩
              · rw [if_neg (by omega), hcur] at hr4
                rw [if_neg (by omega)] at hcc
                subst hcc
                exact ⟨u0, by simpa using hr4, colDen_later hd0 (fun _ h => h) (fun g hg => hS2 g hg.1)⟩
            · have hnot : ¬ (ix * cols.length + off ≤ j * cols.length + k ∧ j * cols.length + k < ix * cols.length + off + us.length) := by
                rcases Nat.lt_or_gt_of_ne hji with h | h
                · have := Nat.mul_le_mul_right cols.length h
                  rw [Nat.succ_mul] at this
                  omega
                · have := Nat.mul_le_mul_right cols.length h
                  rw [Nat.succ_mul] at this
                  omega
              rw [if_neg hnot, hcur] at hr4
              refine ⟨u0, by simpa using hr4, ?_⟩
              have hd0 := colDen_later (S' := ρ.R) (W' := W') hd0 (fun _ h => h) (fun g hg => hS2 g hg.1)
              by_cases hko : off ≤ k ∧ k < off + xs.length
              · rw [if_pos hko] at hcc
                obtain ⟨x, _, hup⟩ := hcc
                exact updCol_off hup hji hd0
              · rw [if_neg hko] at hcc
                subst hcc
                exact hd0
        · cases h
    · cases h
  · cases h

/-- A source's cells. -/
theorem srcAt {q n : Nat} {kq : MBlk} {cols : List Col} {A : Option Addr} {c : Nat} (hb : BR ρ W q kq) (hs : srcOf kq = some (n, cols)) (hρ : ρ q = some (A, c)) (h0 : 0 < n) :
    ∃ ad, A = some ad ∧ ∀ j, j < n → ∀ k col, cols[k]? = some col → ∃ v, W.cell? (ad.add (j * cols.length + k)) = some v ∧ colDen ρ.R W col j v := by
  cases kq <;> simp only [srcOf] at hs <;> first | cases hs | skip
  · obtain ⟨A', c', h1, _, h2⟩ := hb
    rw [hρ] at h1
    simp only [Option.some.injEq, Prod.mk.injEq] at h1
    obtain ⟨rfl, rfl⟩ := h1
    obtain ⟨a, ha, _, h3⟩ := h2 h0
    exact ⟨a, ha, h3⟩
  · obtain ⟨A', c', vs, h1, h2, _, _, h3⟩ := hb
    rw [hρ] at h1
    simp only [Option.some.injEq, Prod.mk.injEq] at h1
    obtain ⟨rfl, rfl⟩ := h1
    cases A with
    | none =>
      rcases h2.2 with ⟨_, h0'⟩ | ⟨g, cap, cur, h, _⟩
      · omega
      · simp at h
    | some ad =>
      have hg : ad = ⟨ad.block, 0, none⟩ := by
        rcases h2.2 with ⟨h, _⟩ | ⟨g, cap, cur, h, _⟩
        · cases h
        · simp only [Value.slice.injEq, Option.some.injEq] at h
          rw [h.1]
      refine ⟨ad, rfl, fun j hj k col hcol => ?_⟩
      obtain ⟨u, hu, hd⟩ := h3 j hj k col hcol
      refine ⟨u, ?_, hd⟩
      rw [hg]
      exact h2.cells (g := ad.block) rfl _ u hu

theorem length_dropCols (lo : Nat) (c : List Col) : (dropCols lo c).length = c.length := by
  induction c with
  | nil => rfl
  | cons x r ih => simp [dropCols, ih]
theorem get_dropCols (lo : Nat) (c : List Col) (k : Nat) : (dropCols lo c)[k]? = (c[k]?).map (dropCol lo) := by
  induction c generalizing k with
  | nil => simp [dropCols]
  | cons x r ih => cases k <;> simp [dropCols, ih]
theorem get_dropG (lo : Nat) (gs : List (Nat → Nat → Int)) (k : Nat) : (dropCol.dropG lo gs)[k]? = (gs[k]?).map (fun g j => g (lo + j)) := by
  induction gs generalizing k with
  | nil => simp [dropCol.dropG]
  | cons x r ih => cases k <;> simp [dropCol.dropG, ih]
theorem length_dropG (lo : Nat) (gs : List (Nat → Nat → Int)) : (dropCol.dropG lo gs).length = gs.length := by
  induction gs with
  | nil => rfl
  | cons x r ih => simp [dropCol.dropG, ih]
theorem dropCol_den {S : Nat → Prop} {lo j : Nat} {c : Col} {v : Value} (h : colDen S W c (lo + j) v) : colDen S W (dropCol lo c) j v := by
  cases c <;> simp only [dropCol, colDen] at h ⊢
  · exact h
  · exact h
  · obtain ⟨A, c, h1, h2, h3⟩ := h
    refine ⟨A, c, h1, h2, fun h0 => ?_⟩
    obtain ⟨a, ha, hs, h4⟩ := h3 h0
    refine ⟨a, ha, hs, fun i hi k g hg => ?_⟩
    rw [get_dropG, Option.map_eq_some_iff] at hg
    obtain ⟨g0, hg0, rfl⟩ := hg
    rw [length_dropG]
    exact h4 i hi k g0 hg0
theorem colsKnown_get {l : List Col} (h : colsKnown l = true) : ∀ c ∈ l, colKnown c = true := by
  induction l with
  | nil => intro c hc; cases hc
  | cons x r ih =>
    intro c hc
    simp only [colsKnown, Bool.and_eq_true] at h
    rcases List.mem_cons.1 hc with rfl | hc
    · exact h.1
    · exact ih h.2 c hc
theorem known_one {S : Nat → Prop} {c : Col} {j : Nat} {v : Value} (h : colDen S W c j v) (hk : colKnown c = true) : v.oneCell' = true := by
  cases c <;> simp only [colDen, colKnown] at h hk
  · subst h; rfl
  · subst h; rfl
  · obtain ⟨A, c, rfl, _⟩ := h; rfl
  · cases hk

/-- The cells that k elements from element lo on hold. -/
theorem srcNews {q n lo k : Nat} {kq : MBlk} {cols : List Col} {A : Option Addr} {c : Nat} (hb : BR ρ W q kq) (hs : srcOf kq = some (n, cols)) (hρ : ρ q = some (A, c)) (hc : 0 < cols.length) (hkn : colsKnown cols = true) (hle : lo + k ≤ n) (h0 : 0 < k) :
    ∃ (ad : Addr) (news : List Value), A = some ad ∧ news.length = k * cols.length ∧ (∀ j u, news[j]? = some u → W.cell? ((ad.add (lo * cols.length)).add j) = some u) ∧ (∀ u ∈ news, u.oneCell' = true) ∧
      ∀ (j : Nat), j < k → ∀ (kk : Nat) (col : Col), (dropCols lo cols)[kk]? = some col → ∃ u, news[j * cols.length + kk]? = some u ∧ colDen ρ.R W col j u := by
  obtain ⟨ad, hA, hcell⟩ := srcAt hb hs hρ (by omega)
  have at' : ∀ i, i < k * cols.length → ∃ u col, cols[i % cols.length]? = some col ∧ W.cell? ((ad.add (lo * cols.length)).add i) = some u ∧ colDen ρ.R W col (lo + i / cols.length) u := fun i hi => by
    have hkk : i % cols.length < cols.length := Nat.mod_lt _ hc
    have hj : i / cols.length < k := Nat.div_lt_of_lt_mul (by rw [Nat.mul_comm]; exact hi)
    obtain ⟨u, hu, hd⟩ := hcell (lo + i / cols.length) (by omega) (i % cols.length) _ (List.getElem?_eq_getElem hkk)
    refine ⟨u, _, List.getElem?_eq_getElem hkk, ?_, hd⟩
    rw [add_add']
    rw [Nat.add_mul, Nat.add_assoc, Nat.mul_comm (i / cols.length), Nat.div_add_mod] at hu
    exact hu
  let news := (List.range (k * cols.length)).map (fun i => (W.cell? ((ad.add (lo * cols.length)).add i)).getD undef)
  have hget : ∀ i u, i < k * cols.length → W.cell? ((ad.add (lo * cols.length)).add i) = some u → news[i]? = some u := fun i u hi hu => by
    simp only [news, List.getElem?_map, List.getElem?_range hi, Option.map_some, hu, Option.getD_some]
  refine ⟨ad, news, hA, by simp [news], fun i u hu => ?_, fun u hu => ?_, fun j hj kk col hcol => ?_⟩
  · have hi : i < k * cols.length := by have := (List.getElem?_eq_some_iff.1 hu).1; simpa [news] using this
    obtain ⟨u', _, _, hu', _⟩ := at' i hi
    rw [hget i u' hi hu'] at hu
    simp only [Option.some.injEq] at hu
    rw [hu', hu]
  · obtain ⟨i, hi⟩ := List.mem_iff_getElem?.1 hu
    have hil : i < k * cols.length := by have := (List.getElem?_eq_some_iff.1 hi).1; simpa [news] using this
    obtain ⟨u', col, hcol, hu', hd⟩ := at' i hil
    rw [hget i u' hil hu'] at hi
    simp only [Option.some.injEq] at hi
    subst hi
    exact known_one hd (colsKnown_get hkn col (List.mem_of_getElem? hcol))
  · rw [get_dropCols, Option.map_eq_some_iff] at hcol
    obtain ⟨c0, hc0, rfl⟩ := hcol
    have hkk := (List.getElem?_eq_some_iff.1 hc0).1
    obtain ⟨u, hu, hd⟩ := hcell (lo + j) (by omega) kk c0 hc0
    have hlt : j * cols.length + kk < k * cols.length := by
      have : (j + 1) * cols.length ≤ k * cols.length := Nat.mul_le_mul_right _ hj
      rw [Nat.succ_mul] at this
      omega
    exact ⟨u, hget _ u hlt (by rw [add_add', ← Nat.add_assoc, ← Nat.add_mul]; exact hu), dropCol_den hd⟩

theorem append_where {base t ty e : Nat} {i : TypeInfo} {z : Value} {size bytes : Nat} (ht : P.underlying t = some (.slice e)) (hi : P.info? e = some i) (hz : i.zero = some z)
    (hsize : i.size = size) (hby : i.bytes = bytes) {v : Value} {n : Nat} {xs : List Value} (hown : W.ownsRow base e size v n xs)
    {ad : Addr} {m c : Nat} {news : List Value} (hl : news.length = m * size) (hnews : ∀ j u, news[j]? = some u → W.cell? (ad.add j) = some u) (h1 : ∀ u ∈ news, u.oneCell' = true) (h0 : 0 < m)
    (h63 : n + m ≤ maxLen) (hbytes : (n + m) * bytes ≤ 140737488355328) {v' : Value} {w' : World} (hrun : (Builtin.append_ #[t, t] ty #[v, .slice (some ad) m c]).run P W = .ok v' w') :
    v'.ownBlock = v.ownBlock ∨ v'.ownBlock = some W.heap.size := by
  subst hsize
  subst hby
  have hsmall : n + m ≤ 9223372036854775807 := by simp only [maxLen] at h63; omega
  rcases hown.2 with ⟨rfl, rfl⟩ | ⟨g, cap, cur, rfl, hbg, hg, hnc, hcm, hcs, htake⟩
  · have hr := run_append_nil (P := P) W t ty e i z ht hi hz ad m c news hl hnews h0 (by omega) (by have hb := hbytes; simp only [Nat.zero_add] at hb; omega)
    rw [hr] at hrun
    cases hrun
    exact .inr rfl
  · by_cases hroom : n + m ≤ cap
    · have hfit : n * i.size + news.length ≤ cur.size := by rw [hl, hcs, ← Nat.add_mul]; exact Nat.mul_le_mul_right _ hroom
      have hr := run_append_room (P := P) W t ty e i ht hi g n cap cur hg ad m c news hl hnews h1 hroom hfit
      rw [hr] at hrun
      cases hrun
      exact .inl rfl
    · have holds : ∀ j u, xs[j]? = some u → W.cell? ((⟨g, 0, none⟩ : Addr).add j) = some u := hown.cells (g := g) rfl
      have hr := run_append_grow (P := P) W t ty e i z ht hi hz ⟨g, 0, none⟩ n cap xs hown.1 holds ad m c news hl hnews (by omega) (by omega) (growslice_fits (by omega) hbytes)
      rw [hr] at hrun
      cases hrun
      exact .inr rfl

theorem length_catCols (n : Nat) : ∀ (c c' : List Col), c.length = c'.length → (catCols n c c').length = c.length := by
  intro c
  induction c with
  | nil => intro c' _; cases c' <;> rfl
  | cons x r ih =>
    intro c' h
    cases c' with
    | nil => simp at h
    | cons y r' => simp only [catCols, List.length_cons]; rw [ih r' (by simpa using h)]
theorem get_catCols (n : Nat) : ∀ (c c' : List Col) (k : Nat) (col : Col), c.length = c'.length → (catCols n c c')[k]? = some col → ∃ x y, c[k]? = some x ∧ c'[k]? = some y ∧ col = catCol n x y := by
  intro c
  induction c with
  | nil => intro c' k col h; cases c' <;> simp [catCols]
  | cons x r ih =>
    intro c' k col h hk
    cases c' with
    | nil => simp at h
    | cons y r' =>
      cases k with
      | zero => simp [catCols] at hk; exact ⟨x, y, rfl, rfl, hk.symm⟩
      | succ k => simpa using ih r' k col (by simpa using h) (by simpa [catCols] using hk)
theorem catG_left {n j : Nat} (hj : j < n) : ∀ {gs gs' : List (Nat → Nat → Int)} (k : Nat) (g : Nat → Nat → Int), gs.length = gs'.length → (catG n gs gs')[k]? = some g → ∃ g0, gs[k]? = some g0 ∧ g j = g0 j := by
  have hb : Nat.blt j n = true := by rw [Nat.blt_eq]; exact hj
  intro gs
  induction gs with
  | nil => intro gs' k g h; cases gs' <;> simp [catG]
  | cons x r ih =>
    intro gs' k g h hk
    cases gs' with
    | nil => simp at h
    | cons y r' =>
      cases k with
      | zero => simp [catG] at hk; subst hk; exact ⟨x, rfl, by simp [hb]⟩
      | succ k => simpa using ih k g (by simpa using h) (by simpa [catG] using hk)
theorem catG_right {n j : Nat} (hj : n ≤ j) : ∀ {gs gs' : List (Nat → Nat → Int)} (k : Nat) (g : Nat → Nat → Int), gs.length = gs'.length → (catG n gs gs')[k]? = some g → ∃ g0, gs'[k]? = some g0 ∧ g j = g0 (j - n) := by
  have hb : Nat.blt j n = false := Bool.eq_false_iff.2 fun h => by rw [Nat.blt_eq] at h; omega
  intro gs
  induction gs with
  | nil => intro gs' k g h; cases gs' <;> simp [catG]
  | cons x r ih =>
    intro gs' k g h hk
    cases gs' with
    | nil => simp at h
    | cons y r' =>
      cases k with
      | zero => simp [catG] at hk; subst hk; exact ⟨y, rfl, by simp [hb]⟩
      | succ k => simpa using ih k g (by simpa using h) (by simpa [catG] using hk)
theorem length_catG (n : Nat) : ∀ {gs gs' : List (Nat → Nat → Int)}, gs.length = gs'.length → (catG n gs gs').length = gs.length := by
  intro gs
  induction gs with
  | nil => intro gs' h; cases gs' <;> rfl
  | cons x r ih =>
    intro gs' h
    cases gs' with
    | nil => simp at h
    | cons y r' => simp only [catG, List.length_cons]; rw [ih (by simpa using h)]
theorem rows_den {S : Nat → Prop} {len len' : Nat → Nat} {gs gs' : List (Nat → Nat → Int)} {j j' : Nat} {v : Value} (h : colDen S W (.rows len gs) j v) (hl : len' j' = len j) (hn : gs'.length = gs.length) (hg : ∀ (k : Nat) (g : Nat → Nat → Int), gs'[k]? = some g → ∃ g0 : Nat → Nat → Int, gs[k]? = some g0 ∧ g j' = g0 j) : colDen S W (.rows len' gs') j' v := by
  obtain ⟨A, c, h1, h2, h3⟩ := h
  refine ⟨A, c, by rw [hl]; exact h1, by rw [hl]; exact h2, fun h0 => ?_⟩
  rw [hl] at h0
  obtain ⟨a, ha, hs, h4⟩ := h3 h0
  refine ⟨a, ha, hs, fun i hi k g hk => ?_⟩
  obtain ⟨g0, hg0, e⟩ := hg k g hk
  rw [hl] at hi
  rw [hn, e]
  exact h4 i hi k g0 hg0
theorem catCol_left {S : Nat → Prop} {n j : Nat} {x y : Col} {v : Value} (hj : j < n) (h : colDen S W x j v) : colDen S W (catCol n x y) j v := by
  have hb : Nat.blt j n = true := by rw [Nat.blt_eq]; exact hj
  have hn : Nat.beq n 0 = false := Bool.eq_false_iff.2 fun h => by have := Nat.eq_of_beq_eq_true h; omega
  cases x <;> cases y <;> simp only [catCol, hn, cond_false] <;> try trivial
  · rename_i k g k' g'
    cases hk : kEq k k'
    · trivial
    · simp only [colDen, cond_true, hb] at h ⊢; exact h
  · simp only [colDen, hb, cond_true] at h ⊢; exact h
  · rename_i len gs len' gs'
    cases hl : Nat.beq gs.length gs'.length
    · trivial
    · have hl := Nat.eq_of_beq_eq_true hl
      exact rows_den h (by simp [hb]) (length_catG n hl) fun k g hk => catG_left hj k g hl hk
theorem catCol_right {S : Nat → Prop} {n j : Nat} {x y : Col} {v : Value} (hj : n ≤ j) (h : colDen S W y (j - n) v) : colDen S W (catCol n x y) j v := by
  have hb : Nat.blt j n = false := Bool.eq_false_iff.2 fun h => by rw [Nat.blt_eq] at h; omega
  have any : ∀ {c : Col}, colDen S W c (j - n) v → colDen S W (bif Nat.beq n 0 then c else .any) j v := fun {c} h => by
    cases hn : Nat.beq n 0
    · trivial
    · have := Nat.eq_of_beq_eq_true hn
      subst this
      exact h
  cases x <;> cases y <;> simp only [catCol] <;> try trivial
  · rename_i k g k' g'
    cases hk : kEq k k'
    · trivial
    · obtain rfl := kEq_iff.1 hk
      simp only [colDen, cond_true, hb, cond_false] at h ⊢; exact h
  · simp only [colDen, hb, cond_false] at h ⊢; exact h
  · rename_i len gs len' gs'
    cases hl : Nat.beq gs.length gs'.length
    · trivial
    · have hl := Nat.eq_of_beq_eq_true hl
      exact rows_den h (by simp [hb]) (by rw [length_catG n hl, hl]) fun k g hk => catG_right hj k g hl hk
  all_goals exact any h

theorem run_append_zero {t ty e size n c : Nat} {i : TypeInfo} (ht : P.underlying t = some (.slice e)) (hi : P.info? e = some i) {v : Value} {xs : List Value} {A : Option Addr} (hown : W.ownsRow 0 e size v n xs) :
    (Builtin.append_ #[t, t] ty #[v, .slice A 0 c]).run P W = .ok v W := by
  have hf : (Builtin.firstCells i.size 0 (.slice A 0 c)).run P W = .ok #[] W := by
    cases A with
    | none => simp [Builtin.firstCells]
    | some ad =>
      have := run_loadCells_list (P := P) W ad [] (fun j u hu => by simp at hu)
      simpa [Builtin.firstCells] using this
  rcases hown.2 with ⟨rfl, rfl⟩ | ⟨g, cap, cur, rfl, _, hg, hnc, hcm, hcs, htake⟩
  · simp [Builtin.append_, run_underlying ht, sizeOf, typeInfo, hi, Builtin.lenOf, hf]
  · simp [Builtin.append_, run_underlying ht, sizeOf, typeInfo, hi, Builtin.lenOf, hf, hnc, storeCells]

/-- append, where the source's cells are known. -/
theorem append_core {cl : Call} {x y : Operand} {t r n k : Nat} {ti te : TI} {cols cols2 : List Col} {Ay : Option Addr} {cy : Nat} {pre : List Prop} (hT : TabOk P T) (hm : MR K w0 W ρ m) (ho : o.op = .call cl) (hcal : cl.callee = .builtin .append) (hargs : cl.args.toList = [x, y]) (htys : cl.argTypes.toList = [t, t])
    (hti : assoc T.types t = some ti) (hte : assoc T.types ti.elem = some te) (k2 : ti.kind = 3) (hr : m[r]? = some (.oarr ti.elem n cols)) (hdx : Den ρ (.sl r n) (a.eval x)) (ey : a.eval y = .slice Ay k cy)
    (k4 : cols.length = te.size) (k5 : cols2.length = te.size) (k6 : te.zero.length = te.size) (k7 : 0 < te.size) (p4 : (n + k) * te.bytes ≤ 140737488355328) (p5 : n + k ≤ 9223372036854775807)
    (hsrc : 0 < k → ∃ (ad : Addr) (news : List Value), Ay = some ad ∧ news.length = k * te.size ∧ (∀ j u, news[j]? = some u → W.cell? (ad.add j) = some u) ∧ (∀ u ∈ news, u.oneCell' = true) ∧
      ∀ (j : Nat), j < k → ∀ (kk : Nat) (col : Col), cols2[kk]? = some col → ∃ u, news[j * te.size + kk]? = some u ∧ colDen ρ.R W col j u) :
    OpTo P a o W (BPost K w0 ρ m ⟨pre, .sl r (n + k), [r], [(r, .oarr ti.elem (n + k) (catCols n cols cols2))], []⟩) := by
  obtain ⟨A, c0, hρ, ex, hnx⟩ := hdx.sl_inv
  obtain ⟨A', c', vs, h1, h2, h2', h3, h4⟩ := hm.blk r _ hr (by rw [hρ]; simp)
  rw [hρ] at h1
  simp only [Option.some.injEq, Prod.mk.injEq] at h1
  obtain ⟨rfl, rfl⟩ := h1
  obtain ⟨ht1, ht2⟩ := tiChk_slice (hT.types t ti hti) k2
  obtain ⟨i, hi, hisz, hiby, hiz⟩ := tiChk_info (hT.types _ te hte)
  have hcl : (catCols n cols cols2).length = te.size := by rw [length_catCols n cols cols2 (by omega)]; omega
  rw [k4] at h2 h4
  have hvl : vs.length = n * te.size := h2.1
  have ha : cl.args = #[x, y] := by rw [← Array.toArray_toList (xs := cl.args), hargs]
  have hty : cl.argTypes = #[t, t] := by rw [← Array.toArray_toList (xs := cl.argTypes), htys]
  have hexec : ∀ {v' : Value} {W' : World}, (Builtin.append_ #[t, t] o.type #[.slice A n c0, .slice Ay k cy]).run P W = .ok v' W' → (execOp a.eval o).run P W = .ok (.value v') W' := fun {v' W'} hrun => by
    simp only [execOp, ho, resolve, hcal, ha, hty, invoke, builtin, Sem.run_bind, Sem.run_pure, Result.andThen_ok, List.map_toArray, List.map_cons, List.map_nil, ex, ey, hrun]
  have hnn : ρ r ≠ none := by rw [hρ]; simp
  by_cases hk0 : k = 0
  · subst hk0
    have hrun := run_append_zero (P := P) (ty := o.type) (c := cy) (A := Ay) ht1 hi h2
    have hold : (ρ.with r (A, c0)) = ρ := by
      cases ρ
      simp only [Env.with]
      congr 1
      funext s
      by_cases e : s = r
      · subst e; simp only [if_true]; exact hρ.symm
      · simp only [if_neg e]
    have hcols : ∀ j, j < n → ∀ kk col, (catCols n cols cols2)[kk]? = some col → ∃ u, vs[j * te.size + kk]? = some u ∧ colDen ρ.R W col j u := fun j hj kk col hcol => by
      obtain ⟨cx, cy, e1, e2, rfl⟩ := get_catCols n cols cols2 kk col (by omega) hcol
      obtain ⟨u, hu, hdu⟩ := h4 j hj kk cx e1
      exact ⟨u, hu, catCol_left hj hdu⟩
    refine OpTo.value (hexec hrun) ⟨ρ, fun _ _ _ h => h, .sl hρ (fun h => hnx (by omega)), ?_⟩
    simp only [updMem, List.append_nil]
    have := hm.turn (row := none) (k' := .oarr ti.elem (n + 0) (catCols n cols cols2)) (x := (A, c0)) hr rfl hnn (World.grownBy.refl W none) (fun g e => by cases e) (fun b hb => .inl ⟨b, c0, by rw [hρ, ← hb], rfl⟩)
      ⟨A, c0, vs, Env.with_same _ _ _, by rw [hcl]; exact h2, h2', by omega, by rw [hcl]; exact hcols⟩
    rw [hold] at this
    exact this
  · obtain ⟨ad, news, rfl, hnl, hnews, hone, hncol⟩ := hsrc (Nat.pos_of_ne_zero hk0)
    obtain ⟨z, hz, hzd⟩ := hiz (fun e => by rw [e] at k6; simp at k6; omega)
    have hzs : z.cells.size = te.size := by have := (hzd ρ).1; rw [k6] at this; simpa using this
    have hml : n + k ≤ maxLen := by simp only [maxLen]; omega
    obtain ⟨v', W', hrun, g1, g2, g3⟩ := run_append_own (P := P) W 0 t o.type ti.elem i z te.size te.bytes ht1 hi hz hisz hiby hzs k7 (.slice A n c0) n vs h2 ad k cy news hnl hnews hone hml p4 (Nat.zero_le _)
    have hwhere := append_where (P := P) ht1 hi hz hisz hiby h2 hnl hnews hone (Nat.pos_of_ne_zero hk0) hml p4 hrun
    obtain ⟨gn, capn, hv'⟩ : ∃ g cap, v' = .slice (some ⟨g, 0, none⟩) (n + k) cap := by
      rcases g1.2 with ⟨_, h0⟩ | ⟨g, cap, cur, e1, e2, e3, _⟩
      · exact (hk0 (Nat.add_eq_zero_iff.1 h0).2).elim
      · exact ⟨g, cap, e1⟩
    subst hv'
    have hrow : ∀ g, (Value.slice A n c0).ownBlock = some g → ∃ a c, ρ r = some (some a, c) ∧ a.block = g := fun g e => by
      cases A with
      | none => simp [Value.ownBlock] at e
      | some aa => simp [Value.ownBlock] at e; exact ⟨aa, c0, hρ, e⟩
    have hx : (∃ b c, ρ r = some (some b, c) ∧ b.block = gn) ∨ W.heap.size ≤ gn := by
      rcases hwhere with hw | hw
      · exact .inl (hrow gn (by rw [← hw]; rfl))
      · simp [Value.ownBlock] at hw
        exact .inr (by omega)
    have hnoS : ¬ ρ.S gn := fun hs => by
      rcases hx with ⟨b, c, hb, e⟩ | hge
      · rw [hρ] at hb
        simp only [Option.some.injEq, Prod.mk.injEq] at hb
        exact h2' b hb.1 (by rw [e]; exact hs)
      · have := hm.hS gn hs
        omega
    have hnoRow : ∀ g, (Value.slice A n c0).ownBlock = some g → ¬ ρ.S g := fun g e => by
      obtain ⟨b, c, hb, e'⟩ := hrow g e
      rw [hρ] at hb
      simp only [Option.some.injEq, Prod.mk.injEq] at hb
      rw [← e']
      exact h2' b hb.1
    have hS2 : ∀ g', ρ.S g' → W'.heap[g']? = W.heap[g']? := fun g' hs => g2.block g' (hm.hS g' hs) (fun e => hnoRow g' e.symm hs)
    refine OpTo.value (hexec hrun) ⟨ρ.with r (some ⟨gn, 0, none⟩, capn), fun s y hs hy => by rw [Env.with_ne _ _ (by simpa using hs)]; exact hy, .sl (Env.with_same _ _ _) (fun _ => by simp), ?_⟩
    simp only [updMem, List.append_nil]
    refine hm.turn hr rfl hnn g2 hrow (fun b hb => by simp only [Option.some.injEq] at hb; subst hb; exact hx) ⟨_, capn, vs ++ news, Env.with_same _ _ _, by rw [hcl]; exact g1, fun b hb => by simp only [Option.some.injEq] at hb; subst hb; exact hnoS, by omega, fun j hj kk col hcol => ?_⟩
    obtain ⟨cx, cy', e1, e2, rfl⟩ := get_catCols n cols cols2 kk col (by omega) hcol
    rw [hcl]
    have hkk := (List.getElem?_eq_some_iff.1 e1).1
    by_cases hjn : j < n
    · obtain ⟨u, hu, hdu⟩ := h4 j hjn kk cx e1
      have hlt := (List.getElem?_eq_some_iff.1 hu).1
      exact ⟨u, by rw [List.getElem?_append_left hlt]; exact hu, catCol_left hjn (colDen_later hdu (fun _ h => h) (fun g hg => hS2 g hg.1))⟩
    · obtain ⟨u, hu, hdu⟩ := hncol (j - n) (by omega) kk cy' e2
      refine ⟨u, ?_, catCol_right (by omega) (colDen_later hdu (fun _ h => h) (fun g hg => hS2 g hg.1))⟩
      have e3 : j * te.size + kk = vs.length + ((j - n) * te.size + kk) := by
        rw [hvl, Nat.sub_mul]
        have := Nat.mul_le_mul_right te.size (by omega : n ≤ j)
        omega
      rw [e3, List.getElem?_append_right (by omega), Nat.add_sub_cancel_left]
      exact hu

theorem dropCols_zero (c : List Col) : ∀ (k : Nat) (col : Col) (S : Nat → Prop) (W : World) (j : Nat) (v : Value), c[k]? = some col → colDen S W (dropCol 0 col) j v → colDen S W col j v := fun k col S W j v _ h => by
  cases col <;> simp only [dropCol, colDen, Nat.zero_add] at h ⊢
  · exact h
  · exact h
  · obtain ⟨A, c, h1, h2, h3⟩ := h
    refine ⟨A, c, h1, h2, fun h0 => ?_⟩
    obtain ⟨a, ha, hs, h4⟩ := h3 h0
    refine ⟨a, ha, hs, fun i hi k g hg => ?_⟩
    have := h4 i hi k (fun j => g (0 + j)) (by rw [get_dropG, hg]; rfl)
    rw [length_dropG] at this
    simpa using this

theorem sB_append {cl : Call} {b : BRes} (hT : TabOk P T) (hG : GlobOk T ρ) (hm : MR K w0 W ρ m) (ho : o.op = .call cl) (hs : OpsOk ρ sl a cl.args.toList) (h : stepB T sl m [] (.call cl) = some b) (hp : ∀ p ∈ b.pre, p) :
    OpTo P a o W (BPost K w0 ρ m b) := by
  have hc : sat a [] := fun q w hq => by cases hq
  simp only [stepB] at h
  split at h
  · rename_i x y t t' hcal hargs htys
    split at h
    · rename_i ti r n q k hti hx hy
      split at h
      · rename_i te e n' cols kq hte hr hq
        split at h
        · rename_i k' cols' hsrc
          cases hk : (Nat.beq t t' && Nat.beq ti.kind 3 && Nat.beq e ti.elem && Nat.beq cols.length te.size && Nat.beq cols'.length te.size && Nat.beq te.zero.length te.size && Nat.blt 0 te.size && colsKnown cols')
          · rw [hk] at h; cases h
          · simp only [hk, cond_true, Option.some.injEq] at h
            subst h
            simp only [Bool.and_eq_true, Nat.blt_eq] at hk
            obtain ⟨⟨⟨⟨⟨⟨⟨k1, k2⟩, k3⟩, k4⟩, k5⟩, k6⟩, k7⟩, k8⟩ := hk
            obtain rfl := Nat.eq_of_beq_eq_true k1
            obtain rfl := Nat.eq_of_beq_eq_true k3
            have k5 := Nat.eq_of_beq_eq_true k5
            have p1 : n = n' := hp _ (by simp)
            have p2 : k = k' := hp _ (by simp)
            have p4 : (n + k) * te.bytes ≤ 140737488355328 := hp _ (by simp)
            have p5 : n + k ≤ 9223372036854775807 := hp _ (by simp)
            subst p1
            have hdx := useOp_den hG hx (hs.sub (by rw [hargs]; simp)) hc
            have hdy := useOp_den hG hy (hs.sub (by rw [hargs]; simp)) hc
            obtain ⟨Aq, cq, hρq, ey, _⟩ := hdy.sl_inv
            refine append_core hT hm ho hcal hargs htys hti hte (Nat.eq_of_beq_eq_true k2) (nthM hr) hdx ey (Nat.eq_of_beq_eq_true k4) k5 (Nat.eq_of_beq_eq_true k6) k7 p4 p5 fun h0 => ?_
            obtain ⟨ad, news, hA, n1, n2, n3, n4⟩ := srcNews (lo := 0) (k := k) (hm.blk q kq (nthM hq) (by rw [hρq]; simp)) hsrc hρq (by omega) k8 (by omega) h0
            refine ⟨ad, news, hA, by rw [← k5]; exact n1, fun j u hu => ?_, n3, fun j hj kk col hcol => ?_⟩
            · have := n2 j u hu
              simpa [Addr.add] using this
            · obtain ⟨u, hu, hd⟩ := n4 j hj kk (dropCol 0 col) (by rw [get_dropCols, hcol]; rfl)
              exact ⟨u, by rw [← k5]; exact hu, dropCols_zero cols' kk col _ _ _ _ hcol hd⟩
        · cases h
      · cases h
    · rename_i ti r n q sz lo k hti hx hy
      split at h
      · rename_i te e n' cols kq hte hr hq
        split at h
        · rename_i k' cols' hsrc
          cases hk : (Nat.beq t t' && Nat.beq ti.kind 3 && Nat.beq e ti.elem && Nat.beq cols.length te.size && Nat.beq cols'.length te.size && Nat.beq te.zero.length te.size && Nat.blt 0 te.size && colsKnown cols' && Nat.beq sz te.size)
          · rw [hk] at h; cases h
          · simp only [hk, cond_true, Option.some.injEq] at h
            subst h
            simp only [Bool.and_eq_true, Nat.blt_eq] at hk
            obtain ⟨⟨⟨⟨⟨⟨⟨⟨k1, k2⟩, k3⟩, k4⟩, k5⟩, k6⟩, k7⟩, k8⟩, k9⟩ := hk
            obtain rfl := Nat.eq_of_beq_eq_true k1
            obtain rfl := Nat.eq_of_beq_eq_true k3
            have k5 := Nat.eq_of_beq_eq_true k5
            have k9 := Nat.eq_of_beq_eq_true k9
            have p1 : n = n' := hp _ (by simp)
            have p2 : lo + k ≤ k' := hp _ (by simp)
            have p4 : (n + k) * te.bytes ≤ 140737488355328 := hp _ (by simp)
            have p5 : n + k ≤ 9223372036854775807 := hp _ (by simp)
            subst p1
            have hdx := useOp_den hG hx (hs.sub (by rw [hargs]; simp)) hc
            have hdy := useOp_den hG hy (hs.sub (by rw [hargs]; simp)) hc
            obtain ⟨Aq, cq, A', c', hρq, ey, hne⟩ := hdy.sub_inv
            refine append_core hT hm ho hcal hargs htys hti hte (Nat.eq_of_beq_eq_true k2) (nthM hr) hdx ey (Nat.eq_of_beq_eq_true k4) (by rw [length_dropCols]; exact k5) (Nat.eq_of_beq_eq_true k6) k7 p4 p5 fun h0 => ?_
            obtain ⟨ad, news, hA, n1, n2, n3, n4⟩ := srcNews (lo := lo) (k := k) (hm.blk q kq (nthM hq) (by rw [hρq]; simp)) hsrc hρq (by omega) k8 p2 h0
            obtain ⟨_, hA'⟩ := hne h0
            refine ⟨ad.add (lo * sz), news, by rw [hA', hA]; rfl, by rw [← k5]; exact n1, fun j u hu => by rw [k9, ← k5]; exact n2 j u hu, n3, fun j hj kk col hcol => by rw [← k5]; exact n4 j hj kk col hcol⟩
        · cases h
      · cases h
    · cases h
  · cases h

theorem asRow_get : ∀ {cols : List Col} {gs : List (Nat → Nat → Int)}, asRow cols = some gs → gs.length = cols.length ∧ ∀ (k : Nat) (g : Nat → Nat → Int), gs[k]? = some g → ∃ h : Nat → Int, cols[k]? = some (.int .i64 h) ∧ g = fun _ => h := by
  intro cols
  induction cols with
  | nil => intro gs h; simp only [asRow, Option.some.injEq] at h; subst h; simp
  | cons c r ih =>
    intro gs h
    unfold asRow at h
    split at h
    · simp at *
    · rename_i g r' heq
      simp only [List.cons.injEq] at heq
      obtain ⟨rfl, rfl⟩ := heq
      split at h
      · rename_i l hl
        simp only [Option.some.injEq] at h
        subst h
        obtain ⟨h1, h2⟩ := ih hl
        refine ⟨by simp [h1], fun k g' hk => ?_⟩
        cases k with
        | zero => simp at hk; subst hk; exact ⟨g, rfl, rfl⟩
        | succ k => simpa using h2 k g' (by simpa using hk)
      · cases h
    · cases h

/-- The block of an entry does not turn any more: the entry is read only from now on. -/
def giveS (ρ : Env) (n : Nat) (A : Option Addr) : Env := ⟨ρ.f, fun g => ρ.S g ∨ (0 < n ∧ ∃ a, A = some a ∧ a.block = g), fun g => ρ.T g ∨ (0 < n ∧ ∃ a, A = some a ∧ a.block = g)⟩

/-- An entry is given up: it stays readable. -/
theorem MR.give {q e n : Nat} {cols : List Col} {A : Option Addr} {c : Nat} (hm : MR K w0 W ρ m) (hq : m[q]? = some (.oarr e n cols)) (hρ : ρ q = some (A, c)) :
    MR K w0 W (giveS ρ n A) (setAt m q (.arr n cols)) ∧ n ≤ c ∧ (0 < n → ∃ ad, A = some ad ∧ (giveS ρ n A).R ad.block ∧ ∀ j, j < n → ∀ k col, cols[k]? = some col → ∃ v, W.cell? (ad.add (j * cols.length + k)) = some v ∧ colDen (giveS ρ n A).R W col j v) := by
  have hqm : q < m.length := (List.getElem?_eq_some_iff.1 hq).1
  have hb := hm.blk q _ hq (by rw [hρ]; simp)
  have hSle : ∀ g, ρ.S g → (giveS ρ n A).S g := fun g h => .inl h
  have hTle : ∀ g, ρ.T g → (giveS ρ n A).T g := fun g h => .inl h
  have hown : ∀ a, A = some a → ¬ ρ.S a.block ∧ a.block < W.heap.size := fun a ha => own_lt hb rfl (by rw [hρ, ha])
  have hnc : n ≤ c := by
    obtain ⟨A', c', vs, h1, h2, _⟩ := hb
    rw [hρ] at h1
    simp only [Option.some.injEq, Prod.mk.injEq] at h1
    obtain ⟨rfl, rfl⟩ := h1
    rcases h2.2 with ⟨_, h0⟩ | ⟨g, cap, cur, h, _, _, hnc, _⟩
    · omega
    · simp only [Value.slice.injEq] at h; omega
  have hread : 0 < n → ∃ ad, A = some ad ∧ (giveS ρ n A).R ad.block ∧ ∀ j, j < n → ∀ k col, cols[k]? = some col → ∃ v, W.cell? (ad.add (j * cols.length + k)) = some v ∧ colDen (giveS ρ n A).R W col j v := fun h0 => by
    obtain ⟨ad, hA, h3⟩ := srcAt hb rfl hρ h0
    refine ⟨ad, hA, ⟨.inr ⟨h0, ad, hA, rfl⟩, .inr ⟨h0, ad, hA, rfl⟩⟩, fun j hj k col hcol => ?_⟩
    obtain ⟨v, hv, hd⟩ := h3 j hj k col hcol
    exact ⟨v, hv, colDen_later hd (fun g hg => ⟨hSle g hg.1, hTle g hg.2⟩) (fun _ _ => rfl)⟩
  refine ⟨⟨fun g hg => .inl (hm.sub g hg), fun g hg => ?_, fun g hg => ?_, hm.below, fun s l hl hs' => ?_, fun s hs' => by rw [length_setAt]; exact hm.dom s hs', ?_⟩, hnc, hread⟩
  · rcases hg with ⟨hg1, hg2⟩
    have own' : (0 < n ∧ ∃ a, A = some a ∧ a.block = g) → K.row g ∨ ¬ K.keep g := fun ⟨_, a, ha, e⟩ => .inr fun hk => (hown a ha).1 (by rw [e]; exact hm.sub g hk)
    rcases hg2 with h | h
    · rcases hg1 with h' | h'
      · exact hm.rows g ⟨h', h⟩
      · exact own' h'
    · exact own' h
  · rcases hg with h | ⟨h0, a, ha, rfl⟩
    · exact hm.hS g h
    · exact (hown a ha).2
  · rw [get_setAt] at hl
    by_cases e : s = q
    · subst e
      rw [if_pos ⟨rfl, hqm⟩] at hl
      simp only [Option.some.injEq] at hl
      subst hl
      exact ⟨A, c, hρ, hnc, fun h0 => by obtain ⟨ad, h1, h2, h3⟩ := hread h0; exact ⟨ad, h1, h2.1, h3⟩⟩
    · rw [if_neg (by omega)] at hl
      have h0 := hm.blk s l hl hs'
      refine h0.mono (fun _ _ h => h) hSle hTle fun a c' ho ha hbad => ?_
      rcases hbad with h | ⟨hn0, a', ha', eb⟩
      · exact (own_lt h0 ho ha).1 h
      · exact e (hm.sep s q l _ a a' c' c hl hq ho rfl ha (by rw [hρ, ha']) eb.symm)
  · have key : ∀ {s : Nat} {l : MBlk}, (setAt m q (.arr n cols))[s]? = some l → ownOf l = true → m[s]? = some l := fun {s l} hl ho => by
      rw [get_setAt] at hl
      by_cases e : s = q
      · subst e
        rw [if_pos ⟨rfl, hqm⟩] at hl
        simp only [Option.some.injEq] at hl
        subst hl
        simp [ownOf] at ho
      · rw [if_neg (by omega)] at hl
        exact hl
    intro s1 s2 k1 k2 a1 a2 c1 c2 hk1 hk2 ho1 ho2 hr1 hr2 hb
    exact hm.sep s1 s2 k1 k2 a1 a2 c1 c2 (key hk1 ho1) (key hk2 ho2) ho1 ho2 hr1 hr2 hb

theorem Den.giveS {n : Nat} {A : Option Addr} {x : SV} {v : Value} (h : Den ρ x v) : Den (giveS ρ n A) x v := h.mono (fun _ _ h => h)

theorem sB_row {t : Nat} {ps : Array (Nat × Operand)} {b : BRes} (hT : TabOk P T) (hG : GlobOk T ρ) (hm : MR K w0 W ρ m) (hf : ρ m.length = none) (ho : o.op = .buildSlice t 1 ps) (hs : OpsOk ρ sl a (ps.toList.map (·.2))) (h : stepB T sl m [] (.buildSlice t 1 ps) = some b) (hp : ∀ p ∈ b.pre, p) :
    OpTo P a o W (BPost K w0 ρ m b) := by
  have hc : sat a [] := fun q w hq => by cases hq
  simp only [stepB] at h
  split at h
  · rename_i ti q n hti hvs
    split at h
    · rename_i te e' n' cols hte hq
      · split at h
        · rename_i gs hgs
          cases hk : (Nat.beq ti.kind 3 && Nat.beq te.kind 3 && Nat.beq te.size 1 && Nat.beq te.zero.length 1)
          · rw [hk] at h; cases h
          · simp only [hk, cond_true, Option.some.injEq] at h
            subst h
            simp only [Bool.and_eq_true] at hk
            obtain ⟨⟨⟨k1, k2⟩, k3⟩, k4⟩ := hk
            have k1 := Nat.eq_of_beq_eq_true k1
            have k3 := Nat.eq_of_beq_eq_true k3
            have k4 := Nat.eq_of_beq_eq_true k4
            have p1 : n = n' := hp _ (by simp)
            subst p1
            obtain ⟨h1, h2⟩ := useParts_den hG hvs hs hc
            simp only [List.map_cons, List.map_nil] at h1 h2
            obtain ⟨v, vs0, ev, hdv, hnil⟩ := h2.inv
            obtain rfl := hnil.inv_nil
            obtain ⟨A, cc, hρq, rfl, hne⟩ := hdv.sl_inv
            obtain ⟨hmg, hnc, hread⟩ := hm.give (nthM hq) hρq
            obtain ⟨i, hi, hsz, _, hzero⟩ := tiChk_info (hT.types _ te hte)
            obtain ⟨z, hz1, hz2⟩ := hzero (by intro e; simp [e] at k4)
            have hu := (tiChk_slice (hT.types t ti hti) k1).1
            have hps : ps.toList.map (fun p => (p.1, a.eval p.2)) = [(0, .slice A n cc)] := by
              match hpl : ps.toList, h1, ev with
              | [p], h1, ev =>
                obtain ⟨p1, p2⟩ := p
                simp at h1 ev
                simp [h1, ev]
              | [], h1, _ => simp at h1
              | _ :: _ :: _, h1, _ => simp at h1
            have hzl : z.cells.size = 1 := by have := (hz2 ρ).1; rw [k4] at this; simpa using this
            have hrun : (execOp a.eval o).run P W = .ok (.value (.slice (some ⟨W.heap.size, 0, none⟩) 1 1)) (W.alloc (.cells #[.slice A n cc] ti.elem)) := by
              have hf' : Instr.fill (fun i => some (i * te.size, te.size)) ((Array.range (1 * i.size)).map (z.cells[· % z.cells.size]!)) (ps.map fun (i, x) => (i, a.eval x)).toList = some #[.slice A n cc] := by
                rw [Array.toList_map, hps]
                have hgen : ∀ B : Array Value, B.size = 1 → B.setIfInBounds 0 (.slice A n cc) = #[.slice A n cc] := fun B hB => by
                  apply Array.ext
                  · simp [hB]
                  · intro j h1 h2
                    simp at h2
                    subst h2
                    simp
                have := hgen ((Array.range (1 * i.size)).map (z.cells[· % z.cells.size]!)) (by simp [hsz, k3])
                simp [Instr.fill, hsz, k3, Value.cells] at this ⊢
                exact this
              simp only [execOp, ho, Sem.run_bind, run_buildSlice W t ti.elem 1 _ #[.slice A n cc] i z hu hi hz1 (by rw [hsz]; omega) (by rw [hsz]; omega) (by rw [hsz] at *; exact hf'), Result.andThen_ok]
              rfl
            have hgrow := hmg.grow (W' := W.alloc (.cells #[.slice A n cc] ti.elem)) (σ := (giveS ρ n A).with m.length (some ⟨W.heap.size, 0, none⟩, 1)) (new := [.oarr ti.elem 1 [.rows (fun _ => n) gs]]) ((Below.refl _ _).alloc (Nat.le_refl _) _) (fun r hr => by rw [length_setAt] at hr; exact Env.with_ne _ _ (by simp at hr; omega)) (.with _ _ _ _ _) ?_
            · refine OpTo.value hrun ⟨(giveS ρ n A).with m.length (some ⟨W.heap.size, 0, none⟩, 1), fun r y _ hy => ?_, .sl (Env.with_same _ _ _) (fun _ => by simp), ?_⟩
              · rw [Env.with_ne]
                · exact hy
                · intro e; subst e; rw [hf] at hy; cases hy
              · simpa only [killMem_nil, updMem] using hgrow
            · rw [length_setAt]
              refine ⟨fun k b hk hne' => ?_, fun k b ad c' hk ho' hx => ?_, fun k l b d ad c' x y hk hl _ _ _ _ _ => ?_⟩
              · have : k = 0 := by have := (List.getElem?_eq_some_iff.1 hk).1; simpa using this
                subst this
                simp at hk
                subst hk
                refine ⟨some ⟨W.heap.size, 0, none⟩, 1, [.slice A n cc], Env.with_same _ _ _, ?_, fun ad had hs' => ?_, by simp, fun j hj kk col hcol => ?_⟩
                · have := World.ownsRow_lit (base := 0) (e := ti.elem) (size := 1) W #[.slice A n cc] 1 (Nat.zero_le _) (by simp [maxLen]) (by simp)
                  simpa using this
                · simp only [Option.some.injEq] at had
                  subst had
                  exact absurd (hmg.hS _ hs') (Nat.lt_irrefl _)
                · have hj0 : j = 0 := by omega
                  subst hj0
                  have hk0 : kk = 0 := by have := (List.getElem?_eq_some_iff.1 hcol).1; simpa using this
                  subst hk0
                  simp at hcol
                  subst hcol
                  refine ⟨_, rfl, A, cc, rfl, hnc, fun h0 => ?_⟩
                  obtain ⟨ad, hA, hS, hcell⟩ := hread h0
                  obtain ⟨g1, g2⟩ := asRow_get hgs
                  refine ⟨ad, hA, hS, fun i hi k g hg => ?_⟩
                  obtain ⟨h', hc', rfl⟩ := g2 k g hg
                  obtain ⟨u, hu', hd'⟩ := hcell i hi k _ hc'
                  simp only [colDen] at hd'
                  subst hd'
                  rw [g1, World.cell?_of_block (w := W) (Below.heap_alloc _ _ _ (by rw [block_add]; exact hmg.hS _ hS.1))]
                  exact hu'
              · have : k = 0 := by have := (List.getElem?_eq_some_iff.1 hk).1; simpa using this
                subst this
                simp only [Nat.add_zero, Env.with_same, Option.some.injEq, Prod.mk.injEq] at hx
                rw [← hx.1]
                exact Nat.le_refl _
              · have h1 := (List.getElem?_eq_some_iff.1 hk).1
                have h2 := (List.getElem?_eq_some_iff.1 hl).1
                simp at h1 h2
                omega
        · cases h
    · cases h
  · cases h

theorem setBlock_grown {W : World} {g : Nat} {o' : Obj} : W.grownBy { W with heap := W.heap.setIfInBounds g o' } (some g) :=
  ⟨rfl, rfl, rfl, by simp, fun k _ hne => by
    have : g ≠ k := fun e => hne (by rw [e])
    simp [this]⟩

theorem sB_mapUpdate {t : Nat} {x y z : Operand} {b : BRes} (hT : TabOk P T) (hG : GlobOk T ρ) (hm : MR K w0 W ρ m) (ho : o.op = .mapUpdate t x y z) (hs : OpsOk ρ sl a [x, y, z]) (h : stepB T sl m [] (.mapUpdate t x y z) = some b) :
    OpTo P a o W (BPost K w0 ρ m b) := by
  have hc : sat a [] := fun q w hq => by cases hq
  simp only [stepB] at h
  split at h
  · rename_i k k' r q n q' v hk hx hy hz
    split at h
    · rename_i k2 k2' f hr
      cases hc2 : (kEq k k2 && kEq k' k2' && kEq k q && kEq k' q')
      · rw [hc2] at h; cases h
      · simp only [hc2, cond_true, Option.some.injEq] at h
        subst h
        simp only [Bool.and_eq_true] at hc2
        obtain ⟨⟨⟨e1, e2⟩, e3⟩, e4⟩ := hc2
        obtain rfl := kEq_iff.1 e1
        obtain rfl := kEq_iff.1 e2
        obtain rfl := kEq_iff.1 e3
        obtain rfl := kEq_iff.1 e4
        obtain ⟨kt, et, hmu, hku, heu, _⟩ := mapKinds_some hT hk
        have ey := (useOp_den hG hy (hs.sub (by simp)) hc).i_inv
        have ez := (useOp_den hG hz (hs.sub (by simp)) hc).i_inv
        have hdx := useOp_den hG hx (hs.sub (by simp)) hc
        obtain ⟨g, c', hρ, ex⟩ : ∃ g c', ρ r = some (some ⟨g, 0, none⟩, c') ∧ a.eval x = .map (some g) := by
          generalize a.eval x = w at hdx
          cases hdx with
          | mp h => exact ⟨_, _, h, rfl⟩
        have hr := nthM hr
        obtain ⟨g', es, clock, c'', h1, hnoS, h3, h4⟩ := hm.blk r _ hr (by rw [hρ]; simp)
        rw [hρ] at h1
        simp only [Option.some.injEq, Prod.mk.injEq, Addr.mk.injEq, and_true] at h1
        obtain ⟨rfl, rfl⟩ := h1
        have hex : ∀ {W' : World}, (Instr.mapUpdate t (.map (some g)) (.int k n) (.int k' v)).run P W = .ok () W' → (execOp a.eval o).run P W = .ok .skip W' := fun {W'} hr => by
          simp only [execOp, ho, ex, ey, ez, Sem.run_bind, hr, Result.andThen_ok]
          rfl
        have fin : ∀ {es' : Array MapEntry} {clock' : Nat}, (Instr.mapUpdate t (.map (some g)) (.int k n) (.int k' v)).run P W = .ok () { W with heap := W.heap.setIfInBounds g (.map es' clock') } → MapiIs es' clock' k k' (fun j => bif j == n then some v else f j) → OpTo P a o W (BPost K w0 ρ m ⟨[], .v undef, [], [(r, .mapi k k' (fun j => bif j == n then some v else f j))], []⟩) := fun {es' clock'} hrun his => by
          unfold OpTo
          rw [hex hrun]
          refine ⟨ρ, fun r y _ h => h, .v _, ?_⟩
          simp only [killMem_nil, updMem, List.append_nil]
          exact hm.keep hr rfl (by rw [hρ]; simp) setBlock_grown (fun g'' e => by injection e with e; exact ⟨_, _, hρ, e⟩) ⟨g, es', clock', c', hρ, hnoS, (MapKept.heap_set h3).1, his⟩
        obtain ⟨hst, hen, hall⟩ := h4
        rcases mapi_find ⟨hst, hen, hall⟩ n with ⟨f1, f2, f3⟩ | ⟨j, e, v0, f1, f3, f4, f5, f6⟩
        · refine fin (es' := es.push { key := .int k n, val := .int k' v, born := clock }) (clock' := clock + 1) ?_ ⟨MapKept.stamped_push hst f3, fun x hx => ?_, fun n' v' h => ?_⟩
          · simp [Instr.mapUpdate, run_underlying hmu, MapKept.run_getObj_map h3, MapKept.run_checkKey (d := .int k) (k := .int k n) hku rfl, MapKept.run_findKey hku f1, MapKept.run_setObj_map _ h3]
          · simp only [Array.toList_push, List.mem_append, List.mem_singleton] at hx
            rcases hx with hx | rfl
            · obtain ⟨n', v', g1, g2, g3⟩ := hen x hx
              refine ⟨n', v', g1, g2, ?_⟩
              have : (n' == n) = false := by
                simp only [beq_eq_false_iff_ne, ne_eq]
                intro e
                subst e
                exact f3 x hx g1
              simp only [this, cond_false]; exact g3
            · exact ⟨n, v, rfl, rfl, by simp⟩
          · by_cases e : n' = n
            · subst e
              exact ⟨{ key := .int k n', val := .int k' v, born := clock }, by simp, rfl⟩
            · have : (n' == n) = false := by simpa using e
              simp only [this, cond_false] at h
              obtain ⟨x, hx, hkx⟩ := hall n' v' h
              exact ⟨x, by simp [hx], hkx⟩
        · have hkey : ∀ e', es[j]? = some e' → ({ e' with key := .int k n, val := .int k' v } : MapEntry).key = e'.key := fun e' he' => by rw [f3] at he'; cases he'; exact f4.symm
          have hkeys := MapKept.modify_keys (es := es) j (fun e => { e with key := .int k n, val := .int k' v }) hkey
          have hst' := MapKept.stamped_modify hst j (fun e => { e with key := .int k n, val := .int k' v }) (fun _ _ => rfl) (fun e' _ he' => hkey e' he')
          refine fin (es' := es.modify j fun e => { e with key := .int k n, val := .int k' v }) (clock' := clock) ?_ ⟨hst', fun x hx => ?_, fun n' v' h => ?_⟩
          · simp [Instr.mapUpdate, run_underlying hmu, MapKept.run_getObj_map h3, MapKept.run_checkKey (d := .int k) (k := .int k n) hku rfl, MapKept.run_findKey hku f1, f3, f4, MapKept.run_keyThatStays (d := .int k) (k := .int k n) rfl, MapKept.run_setObj_map _ h3]
          · obtain ⟨i, hi⟩ := List.mem_iff_getElem?.1 hx
            simp only [Array.getElem?_toList, Array.getElem?_modify] at hi
            by_cases hij : j = i
            · subst hij
              rw [if_pos rfl, f3] at hi
              simp only [Option.map_some, Option.some.injEq] at hi
              subst hi
              exact ⟨n, v, rfl, rfl, by simp⟩
            · rw [if_neg hij] at hi
              obtain ⟨n', v', g1, g2, g3⟩ := hen x (List.mem_of_getElem? (by simpa using hi))
              refine ⟨n', v', g1, g2, ?_⟩
              have : (n' == n) = false := by
                simp only [beq_eq_false_iff_ne, ne_eq]
                intro e0
                subst e0
                have hnd := hst.2.2
                have h1' : (es.toList.map (·.key))[i]? = some (.int k n') := by rw [List.getElem?_map]; simp [hi, g1]
                have h2' : (es.toList.map (·.key))[j]? = some (.int k n') := by rw [List.getElem?_map]; simp [f3, f4]
                exact hij ((List.getElem?_inj (List.getElem?_eq_some_iff.1 h2').1 hnd).1 (h2'.trans h1'.symm))
              simp only [this, cond_false]; exact g3
          · have hmem : ∀ {q : Value}, q ∈ es.toList.map (·.key) → ∃ x ∈ (es.modify j fun e => { e with key := .int k n, val := .int k' v }).toList, x.key = q := fun {q} hq => by
              rw [← hkeys] at hq
              obtain ⟨x, hx, e⟩ := List.mem_map.1 hq
              exact ⟨x, hx, e⟩
            by_cases e0 : n' = n
            · subst e0
              exact hmem (List.mem_map.2 ⟨e, List.mem_of_getElem? (by simpa using f3), f4⟩)
            · have : (n' == n) = false := by simpa using e0
              simp only [this, cond_false] at h
              obtain ⟨x, hx, hkx⟩ := hall n' v' h
              exact hmem (List.mem_map.2 ⟨x, hx, hkx⟩)
    · cases h
  · cases h

theorem stepB_sound {b : BRes} (hT : TabOk P T) (hG : GlobOk T ρ) (hm : MR K w0 W ρ m) (hs : OpsOk ρ sl a o.op.operands.toList) (h : stepB T sl m [] o.op = some b) (hp : ∀ p ∈ b.pre, p) : OpTo P a o W (BPost K w0 ρ m b) := by
  have hf : ρ m.length = none := by
    cases hx : ρ m.length with
    | none => rfl
    | some y => exact absurd (hm.dom _ (by rw [hx]; simp)) (Nat.lt_irrefl _)
  generalize ho : o.op = op at h hs
  cases op
  case store t x y => exact sB_store hT hG hm ho (hs.sub (by simp [Op.operands])) h hp
  case mapUpdate t x y z => exact sB_mapUpdate hT hG hm ho (hs.sub (by simp [Op.operands])) h
  case call cl => exact sB_append hT hG hm ho (hs.sub (by intro x hx; simp only [Op.operands, Call.operands]; simp; exact .inr (by simpa using hx))) h hp
  case buildSlice t n ps =>
    match n, ho, h, hs with
    | 1, ho, h, hs => exact sB_row hT hG hm hf ho (hs.sub (by simp [Op.operands])) h hp
    | 0, _, h, _ => simp [stepB] at h
    | n + 2, _, h, _ => simp [stepB] at h
  all_goals simp [stepB] at h
end
end Go.Proofs.Ythdmdlipifpbhaa.Sx
