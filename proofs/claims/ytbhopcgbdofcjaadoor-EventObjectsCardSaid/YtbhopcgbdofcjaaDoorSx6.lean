/-
  A symbolic executor for the model's code: the operations that change known memory.
-/
import Derived.Test.YtbhopcgbdofcjaaDoorSx5
namespace Go.Proofs.YtbhopcgbdofcjaaDoor.Sx
open Go Go.RowKit

section
variable {P : Program} {T : Tab} {ρ : Env} {sl : List Slot} {a : Act} {B : Nat} {W w0 : World} {m : List MBlk} {o : Oper}

theorem oneCell_val {x : SV} {v : Value} (h : oneCell x = true) (hd : Den ρ x v) : v.oneCell' = true := by
  cases hd <;> first | rfl | simp [oneCell] at h

theorem allOne_val {xs : List SV} {vs : List Value} (h : allOne xs = true) (hd : DenL ρ xs vs) : ∀ v ∈ vs, v.oneCell' = true := by
  induction xs generalizing vs with
  | nil => obtain rfl := hd.inv_nil; intro v hv; cases hv
  | cons x r ih =>
    obtain ⟨v, ws, rfl, h1, h2⟩ := hd.inv
    simp only [allOne, Bool.and_eq_true] at h
    intro u hu
    rcases List.mem_cons.1 hu with rfl | hu
    · exact oneCell_val h.1 h1
    · exact ih h.2 h2 u hu

theorem add_lit' (g off j : Nat) : (Addr.add ⟨g, off, none⟩ j) = ⟨g, off + j, none⟩ := by unfold Addr.add; split <;> simp_all

/-- A value's cells written into a block of the run's own. -/
theorem run_storeCells_own {g t : Nat} (off : Nat) : ∀ (us : List Value) (i : Nat) (W : World) (vs : Array Value), W.heap[g]? = some (.cells vs t (0, 0)) → off + i + us.length ≤ vs.size → (∀ u ∈ us, u.oneCell' = true) →
    ∃ (W' : World) (vs' : Array Value), (storeCells ⟨g, off, none⟩ us i).run P W = .ok () W' ∧ W'.heap[g]? = some (.cells vs' t (0, 0)) ∧ vs'.size = vs.size ∧ (∀ j, vs'[j]? = if off + i ≤ j ∧ j < off + i + us.length then us[j - (off + i)]? else vs[j]?) ∧ W.grownBy W' (some g) ∧ W'.heap.size = W.heap.size := by
  intro us
  induction us with
  | nil =>
    intro i W vs hg _ _
    exact ⟨W, vs, by simp [storeCells], hg, rfl, fun j => by simp; omega, World.grownBy.refl W _, rfl⟩
  | cons u us ih =>
    intro i W vs hg hl ho
    simp only [List.length_cons] at hl
    have hcell : W.cell? ⟨g, off + i, none⟩ = vs[off + i]? := cell_of_row W g (off + i) vs t (0, 0) hg
    have hlt : off + i < vs.size := by omega
    have hfr : W.frozen? ⟨g, off + i, none⟩ = false := frozen_of_row W g (off + i) vs t hg
    have hst : (store ⟨g, off + i, none⟩ u).run P W = .ok () (W.setCell ⟨g, off + i, none⟩ u) := by
      rw [run_store P W _ u _ (ho u (by simp)), hcell, Array.getElem?_eq_getElem hlt]
      simp [hfr]
    have hg1 := heap_setCell_same W g (off + i) vs t u hg
    obtain ⟨W', vs', h1, h2, h3, h4, h5, h6⟩ := ih (i + 1) (W.setCell ⟨g, off + i, none⟩ u) (vs.setIfInBounds (off + i) u) hg1 (by simp; omega) (fun x hx => ho x (by simp [hx]))
    refine ⟨W', vs', ?_, h2, by rw [h3]; simp, fun j => ?_, ?_, by rw [h6]; simp⟩
    · simp only [storeCells, Sem.run_bind, add_lit', hst, Result.andThen_ok]
      exact h1
    · rw [h4 j]
      simp only [List.length_cons]
      by_cases c1 : off + (i + 1) ≤ j ∧ j < off + (i + 1) + us.length
      · rw [if_pos c1, if_pos (by omega), show j - (off + i) = (j - (off + (i + 1))) + 1 by omega, List.getElem?_cons_succ]
      · rw [if_neg c1]
        by_cases c2 : j = off + i
        · subst c2
          rw [if_pos (by omega), Array.getElem?_setIfInBounds_self_of_lt hlt]
          simp
        · rw [if_neg (by omega), Array.getElem?_setIfInBounds_ne (by omega)]
    · have s1 : W.grownBy (W.setCell ⟨g, off + i, none⟩ u) (some g) := ⟨rfl, rfl, rfl, by simp, fun k _ hne => Below.heap_setCell _ _ _ _ (fun e => hne (by rw [e]))⟩
      exact ⟨h5.os.trans s1.os, h5.tape.trans s1.tape, h5.output.trans s1.output, Nat.le_trans s1.size h5.size, fun k hk hne => (h5.block k (Nat.lt_of_lt_of_le hk s1.size) hne).trans (s1.block k hk hne)⟩

/-- An entry that does not lie in the block that was written. -/
theorem BR.other {g r : Nat} {k : MBlk} {W' : World} (hB : B ≤ g) (h : BR B ρ W r k) (hg : W.grownBy W' (some g)) (hne : ∀ a c, ownOf k = true → ρ r = some (some a, c) → a.block ≠ g) (hsz : B ≤ W.heap.size) : BR B ρ W' r k := by
  cases k with
  | cells cs =>
    obtain ⟨b, t, vs, c, h1, h2, h3, h4⟩ := h
    exact ⟨b, t, vs, c, h1, h2, (hg.block b (Array.getElem?_eq_some_iff.1 h3).1 (fun e => hne _ _ rfl h1 (by injection e))).trans h3, h4⟩
  | old cs =>
    obtain ⟨a, c, h1, h2, h3⟩ := h
    refine ⟨a, c, h1, h2, fun j x hx => ?_⟩
    obtain ⟨v, hv, hd⟩ := h3 j x hx
    exact ⟨v, (World.cell?_of_block (hg.block _ (by rw [block_add]; omega) (fun e => by rw [block_add] at e; injection e with e; omega))).trans hv, hd⟩
  | arr n cols =>
    obtain ⟨A, c, h1, h2⟩ := h
    refine ⟨A, c, h1, fun hn => ?_⟩
    obtain ⟨a, ha, hlt, h3⟩ := h2 hn
    refine ⟨a, ha, hlt, fun j hj k col hc => ?_⟩
    obtain ⟨v, hv, hd⟩ := h3 j hj k col hc
    exact ⟨v, (World.cell?_of_block (hg.block _ (by rw [block_add]; omega) (fun e => by rw [block_add] at e; injection e with e; omega))).trans hv, hd⟩
  | oarr e n cols =>
    obtain ⟨A, c, vs, h1, h2, h3⟩ := h
    refine ⟨A, c, vs, h1, h2.kept hg ?_, h3⟩
    cases A with
    | none => exact .inl rfl
    | some a => exact .inr (fun e => hne a c rfl h1 (by simpa [Value.ownBlock] using e))
  | gone => trivial

theorem get_killMem (l : List Nat) (m : List MBlk) (r : Nat) : (killMem l m)[r]? = (m[r]?).map (fun k => match k with | .cells cs => .cells (killCells l cs) | .old cs => .old (killCells l cs) | k => k) := by
  induction m generalizing r with
  | nil => simp [killMem]
  | cons k m ih =>
    cases r with
    | zero => cases k <;> simp [killMem]
    | succ r => cases k <;> simp [killMem, ih]
theorem length_killMem (l : List Nat) (m : List MBlk) : (killMem l m).length = m.length := by
  induction m with
  | nil => rfl
  | cons k m ih => cases k <;> simp [killMem, ih]

/-- An entry, where only what is struck has turned. -/
theorem BR.struck {r : Nat} {k : MBlk} {σ : Env} {l : List Nat} (h : BR B ρ W r k) (hr : r ∉ l) (hle : ∀ r y, r ∉ l → ρ r = some y → σ r = some y) : BR B σ W r (match k with | .cells cs => .cells (killCells l cs) | .old cs => .old (killCells l cs) | k => k) := by
  cases k with
  | cells cs =>
    obtain ⟨g, t, vs, c, h1, h2, h3, h4⟩ := h
    exact ⟨g, t, vs, c, hle _ _ hr h1, h2, h3, h4.kill hle⟩
  | old cs =>
    obtain ⟨a, c, h1, h2, h3⟩ := h
    refine ⟨a, c, hle _ _ hr h1, h2, fun j x hx => ?_⟩
    rw [get_killCells, Option.map_eq_some_iff] at hx
    obtain ⟨y, hy, rfl⟩ := hx
    obtain ⟨v, hv, hd⟩ := h3 j y hy
    exact ⟨v, hv, hd.kill hle⟩
  | arr n cols =>
    obtain ⟨A, c, h1, h2⟩ := h
    exact ⟨A, c, hle _ _ hr h1, h2⟩
  | oarr e n cols =>
    obtain ⟨A, c, vs, h1, h2⟩ := h
    exact ⟨A, c, vs, hle _ _ hr h1, h2⟩
  | gone => trivial

theorem killSV_nil (x : SV) : killSV [] x = x := by
  have h1 : ∀ (y : SV), y.refs [] = false := by
    intro y
    induction y using SV.rec (motive_2 := fun xs => refsL xs [] = false) <;> simp_all [SV.refs, refsL, memN]
  simp [killSV, h1]
theorem killCells_nil (xs : List SV) : killCells [] xs = xs := by
  induction xs with
  | nil => rfl
  | cons x r ih => simp [killCells, ih, killSV_nil]
theorem killMem_nil (m : List MBlk) : killMem [] m = m := by
  induction m with
  | nil => rfl
  | cons k m ih => cases k <;> simp [killMem, ih, killCells_nil]
theorem killSlots_nil (sl : List Slot) : killSlots [] sl = sl := by
  induction sl with
  | nil => rfl
  | cons s r ih => cases s; simp [killSlots, ih, killSV_nil]

/-- What an operation that changes known memory leaves. -/
def BPost (B : Nat) (w0 : World) (ρ : Env) (m : List MBlk) (b : BRes) (v : Value) (W' : World) : Prop :=
  ∃ σ : Env, (∀ r y, r ∉ b.kill → ρ r = some y → σ r = some y) ∧ Den σ b.sv v ∧ MR B w0 W' σ (updMem (killMem b.kill m) b.upd)

theorem sB_store {t : Nat} {x y : Operand} {b : BRes} (hT : TabOk P T) (hG : GlobOk T ρ) (hm : MR B w0 W ρ m) (ho : o.op = .store t x y) (hs : OpsOk ρ sl a [x, y]) (h : stepB T sl m [] (.store t x y) = some b) :
    OpTo P a o W (BPost B w0 ρ m b) := by
  have hc : sat a [] := fun q w hq => by cases hq
  simp only [stepB] at h
  split at h
  · rename_i ti r off v hti hx hy
    obtain ⟨p, k', hρ, ex⟩ := (useOp_den hG hx (hs.sub (by simp)) hc).ptr_inv
    have hdy := useOp_den hG hy (hs.sub (by simp)) hc
    split at h
    · rename_i cs xs hcs hxs
      cases hk : (Nat.beq xs.length ti.size && allOne xs)
      · simp [hk] at h
      · simp only [hk, cond_true] at h
        rw [Bool.and_eq_true] at hk
        have hlen := Nat.eq_of_beq_eq_true hk.1
        split at h
        · rename_i cs' hw
          simp only [Option.some.injEq] at h
          subst h
          have hcs := nthM hcs
          obtain ⟨w1, w2, w3⟩ := writeAt_eq hw
          obtain ⟨us, hu, hud⟩ := cellsOf_den hxs hdy
          obtain ⟨g, ty, vs, c, h1, h2, h3, h4⟩ := hm.blk r _ hcs (by rw [hρ]; simp)
          rw [hρ] at h1
          simp only [Option.some.injEq, Prod.mk.injEq] at h1
          obtain ⟨rfl, _⟩ := h1
          obtain ⟨i, hi, hsz, _, _⟩ := tiChk_info (hT.types t ti hti)
          have hul : us.length = ti.size := by rw [hud.1, hlen]
          have hvl : vs.length = cs.length := h4.1
          obtain ⟨W', vs', r1, r2, r3, r4, r5, r6⟩ := run_storeCells_own (P := P) off us 0 W vs.toArray h3 (by simp; omega) (allOne_val hk.2 hud)
          have hrun : (execOp a.eval o).run P W = .ok .skip W' := by
            have e1 : (Addr.add ⟨g, 0, none⟩ off) = ⟨g, off, none⟩ := by rw [add_lit']; simp
            simp only [execOp, ho, ex, Instr.storeAt, Instr.sureAddr, e1, Sem.run_bind, Sem.run_pure, Result.andThen_ok]
            have e2 : (storeVar t ⟨g, off, none⟩ (a.eval y)).run P W = .ok () W' := by
              simp [storeVar, sizeOf, typeInfo, hi, hsz, hu, hul, r1]
            simp [e2]
          unfold OpTo
          rw [hrun]
          refine ⟨ρ, fun r y _ h => h, .v _, ?_⟩
          simp only [killMem_nil, updMem]
          have hgsz : g < W.heap.size := (Array.getElem?_eq_some_iff.1 h3).1
          have hrm : r < m.length := (List.getElem?_eq_some_iff.1 hcs).1
          have hne : ∀ s k, m[s]? = some k → s ≠ r → ∀ a c, ownOf k = true → ρ s = some (some a, c) → a.block ≠ g := fun s k hk hsr a' c' hown hs' e => hsr (hm.sep s r k (.cells cs) a' ⟨g, 0, none⟩ c' k' hk hcs hown rfl hs' hρ e)
          refine ⟨hm.hB, hm.below.trans ⟨r5.os, r5.tape, r5.output, r5.size, fun k hk => r5.block k (by have := hm.le; omega) (fun e => by injection e with e; omega)⟩, fun s k hk hs' => ?_, fun s hs' => by rw [length_setAt]; exact hm.dom s hs', ?_⟩
          · rw [get_setAt] at hk
            by_cases e : s = r
            · subst e
              rw [if_pos ⟨rfl, hrm⟩] at hk
              simp only [Option.some.injEq] at hk
              subst hk
              refine ⟨g, ty, vs'.toList, k', hρ, h2, by simpa using r2, ?_⟩
              refine ⟨by rw [w1]; simp [r3, hvl], fun j z v hz hv => ?_⟩
              have hv' : vs'[j]? = some v := by simpa using hv
              rw [r4 j] at hv'
              rw [w3 j] at hz
              simp only [Nat.add_zero] at hv'
              by_cases hj : off ≤ j ∧ j < off + us.length
              · rw [if_pos hj] at hv'
                rw [if_pos (by omega)] at hz
                exact hud.2 _ z v hz hv'
              · rw [if_neg hj] at hv'
                rw [if_neg (by omega)] at hz
                exact h4.2 j z v hz (by simpa using hv')
            · rw [if_neg (by omega)] at hk
              exact (hm.blk s k hk hs').other h2 r5 (hne s k hk e) hm.le
          · have key : ∀ {s : Nat} {k : MBlk}, (setAt m r (.cells cs'))[s]? = some k → ∃ k0, m[s]? = some k0 ∧ ownOf k0 = ownOf k := fun {s k} hk => by
              rw [get_setAt] at hk
              by_cases e : s = r
              · subst e
                rw [if_pos ⟨rfl, hrm⟩] at hk
                simp only [Option.some.injEq] at hk
                subst hk
                exact ⟨_, hcs, rfl⟩
              · rw [if_neg (by omega)] at hk
                exact ⟨k, hk, rfl⟩
            intro s1 s2 k1 k2 a1 a2 c1 c2 hk1 hk2 ho1 ho2 hr1 hr2 hb
            obtain ⟨l1, hl1, e1⟩ := key hk1
            obtain ⟨l2, hl2, e2⟩ := key hk2
            exact hm.sep s1 s2 l1 l2 a1 a2 c1 c2 hl1 hl2 (e1.trans ho1) (e2.trans ho2) hr1 hr2 hb
        · cases h
    · cases h
  · cases h

theorem srcCells {q k k' : Nat} {kq : MBlk} {cols : List Col} {v : Value} (hb : BR B ρ W q kq) (hs : srcOf kq = some (k', cols)) (hd : Den ρ (.sl q k) v) (hk : k = k') (h0 : 0 < k) (hc : 0 < cols.length) (hkn : colsKnown cols = true) :
    ∃ (ad : Addr) (c : Nat) (news : List Value), v = .slice (some ad) k c ∧ news.length = k * cols.length ∧ (∀ j u, news[j]? = some u → W.cell? (ad.add j) = some u) ∧ (∀ u ∈ news, u.oneCell' = true) ∧
      ∀ (j : Nat), j < k → ∀ (kk : Nat) (col : Col), cols[kk]? = some col → ∃ u, news[j * cols.length + kk]? = some u ∧ colDen col j u := by
  subst hk
  have one : ∀ (news : List Value), news.length = k * cols.length → (∀ (j : Nat), j < k → ∀ (kk : Nat) (col : Col), cols[kk]? = some col → ∃ u, news[j * cols.length + kk]? = some u ∧ colDen col j u) → ∀ u ∈ news, u.oneCell' = true := fun news hl h u hu => by
    obtain ⟨i, hi⟩ := List.mem_iff_getElem?.1 hu
    have hil := (List.getElem?_eq_some_iff.1 hi).1
    have hj : i / cols.length < k := Nat.div_lt_of_lt_mul (by rw [Nat.mul_comm]; omega)
    have hkk : i % cols.length < cols.length := Nat.mod_lt _ hc
    have hcol := List.getElem?_eq_getElem hkk
    obtain ⟨u', hu', hd'⟩ := h _ hj _ _ hcol
    rw [Nat.mul_comm, Nat.div_add_mod, hi] at hu'
    simp only [Option.some.injEq] at hu'
    subst hu'
    have hknown : colKnown cols[i % cols.length] = true := by
      have : ∀ (l : List Col), colsKnown l = true → ∀ c ∈ l, colKnown c = true := by
        intro l
        induction l with
        | nil => intro _ c hc; cases hc
        | cons x r ih =>
          intro h c hc
          simp only [colsKnown, Bool.and_eq_true] at h
          rcases List.mem_cons.1 hc with rfl | hc
          · exact h.1
          · exact ih h.2 c hc
      exact this _ hkn _ (List.getElem_mem hkk)
    generalize cols[i % cols.length] = cc at hd' hknown
    cases cc with
    | any => simp [colKnown] at hknown
    | int kk g => simp only [colDen] at hd'; subst hd'; rfl
    | bool g => simp only [colDen] at hd'; subst hd'; rfl
  obtain ⟨A, c, hA, rfl, hne⟩ := hd.sl_inv
  have hne := hne h0
  cases A with
  | none => exact absurd rfl hne
  | some ad =>
    cases kq with
    | cells cs => simp [srcOf] at hs
    | old cs => simp [srcOf] at hs
    | gone => simp [srcOf] at hs
    | arr n cols' =>
      simp only [srcOf, Option.some.injEq, Prod.mk.injEq] at hs
      obtain ⟨rfl, rfl⟩ := hs
      obtain ⟨A', c', h1, h2⟩ := hb
      rw [hA] at h1
      simp only [Option.some.injEq, Prod.mk.injEq] at h1
      obtain ⟨rfl, rfl⟩ := h1
      obtain ⟨a', ha', _, h3⟩ := h2 h0
      simp only [Option.some.injEq] at ha'
      subst ha'
      have hcell : ∀ i, i < n * cols'.length → ∃ u, W.cell? (ad.add i) = some u := fun i hi => by
        have hkk : i % cols'.length < cols'.length := Nat.mod_lt _ hc
        obtain ⟨u, hu, _⟩ := h3 (i / cols'.length) (Nat.div_lt_of_lt_mul (by rw [Nat.mul_comm]; exact hi)) (i % cols'.length) _ (List.getElem?_eq_getElem hkk)
        rw [Nat.mul_comm, Nat.div_add_mod] at hu
        exact ⟨u, hu⟩
      let news := (List.range (n * cols'.length)).map (fun i => (W.cell? (ad.add i)).getD undef)
      have hlen : news.length = n * cols'.length := by simp [news]
      have hget : ∀ i u, news[i]? = some u → W.cell? (ad.add i) = some u := fun i u hu => by
        have hil := (List.getElem?_eq_some_iff.1 hu).1
        obtain ⟨u', hu'⟩ := hcell i (by omega)
        simp only [news, List.getElem?_map, List.getElem?_range (by omega : i < n * cols'.length), Option.map_some, hu', Option.getD_some, Option.some.injEq] at hu
        rw [hu', hu]
      have hmid : ∀ j, j < n → ∀ kk col, cols'[kk]? = some col → ∃ u, news[j * cols'.length + kk]? = some u ∧ colDen col j u := fun j hj kk col hcol => by
        obtain ⟨u, hu, hdu⟩ := h3 j hj kk col hcol
        have hkk := (List.getElem?_eq_some_iff.1 hcol).1
        have hlt : j * cols'.length + kk < n * cols'.length := by
          have : (j + 1) * cols'.length ≤ n * cols'.length := Nat.mul_le_mul_right _ hj
          rw [Nat.add_mul] at this
          omega
        refine ⟨u, ?_, hdu⟩
        simp only [news, List.getElem?_map, List.getElem?_range hlt, Option.map_some, hu, Option.getD_some]
      exact ⟨ad, c, news, rfl, hlen, hget, one news hlen hmid, hmid⟩
    | oarr e n cols' =>
      simp only [srcOf, Option.some.injEq, Prod.mk.injEq] at hs
      obtain ⟨rfl, rfl⟩ := hs
      obtain ⟨A', c', vs, h1, h2, _, h4⟩ := hb
      rw [hA] at h1
      simp only [Option.some.injEq, Prod.mk.injEq] at h1
      obtain ⟨rfl, rfl⟩ := h1
      have hg : ad = ⟨ad.block, 0, none⟩ := by
        rcases h2.2 with ⟨h, _⟩ | ⟨g, cap, cur, h, _⟩
        · cases h
        · simp only [Value.slice.injEq, Option.some.injEq] at h
          rw [h.1]
      refine ⟨ad, c, vs, rfl, h2.1, fun j u hu => ?_, one vs h2.1 h4, h4⟩
      rw [hg]
      exact h2.cells (g := ad.block) rfl j u hu

theorem append_where {base t ty e : Nat} {i : TypeInfo} {z : Value} {size bytes : Nat} (ht : P.underlying t = some (.slice e)) (hi : P.info? e = some i) (hz : i.zero = some z)
    (hsize : i.size = size) (hby : i.bytes = bytes) {v : Value} {n : Nat} {xs : List Value} (hown : W.ownsRow base e size v n xs)
    {ad : Addr} {m c : Nat} {news : List Value} (hl : news.length = m * size) (hnews : ∀ j u, news[j]? = some u → W.cell? (ad.add j) = some u) (h1 : ∀ u ∈ news, u.oneCell' = true) (h0 : 0 < m)
    (h63 : n + m ≤ maxLen) (hbytes : (n + m) * bytes ≤ 140737488355328) {v' : Value} {w' : World} (hrun : (Builtin.append_ #[t, t] ty #[v, .slice (some ad) m c]).run P W = .ok v' w') :
    v'.ownBlock = v.ownBlock ∨ v'.ownBlock = some W.heap.size := by
  subst hsize
  subst hby
  have hsmall : n + m ≤ 9223372036854775807 := by simp only [maxLen] at h63; omega
  rcases hown.2 with ⟨rfl, rfl⟩ | ⟨g, cap, cur, rfl, hbg, hg, hnc, hcm, hcs, htake⟩
  · have hr := run_append_nil (P := P) W t ty e i z ht hi hz ad m c news hl hnews h0 (by omega) (by have hb := hbytes; simp only [Nat.zero_add] at hb; omega)
    rw [hr] at hrun
    cases hrun
    exact .inr rfl
  · by_cases hroom : n + m ≤ cap
    · have hfit : n * i.size + news.length ≤ cur.size := by rw [hl, hcs, ← Nat.add_mul]; exact Nat.mul_le_mul_right _ hroom
      have hr := run_append_room (P := P) W t ty e i ht hi g n cap cur hg ad m c news hl hnews h1 hroom hfit
      rw [hr] at hrun
      cases hrun
      exact .inl rfl
    · have holds : ∀ j u, xs[j]? = some u → W.cell? ((⟨g, 0, none⟩ : Addr).add j) = some u := hown.cells (g := g) rfl
      have hr := run_append_grow (P := P) W t ty e i z ht hi hz ⟨g, 0, none⟩ n cap xs hown.1 holds ad m c news hl hnews (by omega) (by omega) (growslice_fits (by omega) hbytes)
      rw [hr] at hrun
      cases hrun
      exact .inr rfl

theorem length_catCols (n : Nat) : ∀ (c c' : List Col), c.length = c'.length → (catCols n c c').length = c.length := by
  intro c
  induction c with
  | nil => intro c' _; cases c' <;> rfl
  | cons x r ih =>
    intro c' h
    cases c' with
    | nil => simp at h
    | cons y r' => simp only [catCols, List.length_cons]; rw [ih r' (by simpa using h)]
theorem get_catCols (n : Nat) : ∀ (c c' : List Col) (k : Nat) (col : Col), c.length = c'.length → (catCols n c c')[k]? = some col → ∃ x y, c[k]? = some x ∧ c'[k]? = some y ∧ col = catCol n x y := by
  intro c
  induction c with
  | nil => intro c' k col h; cases c' <;> simp [catCols]
  | cons x r ih =>
    intro c' k col h hk
    cases c' with
    | nil => simp at h
    | cons y r' =>
      cases k with
      | zero => simp [catCols] at hk; exact ⟨x, y, rfl, rfl, hk.symm⟩
      | succ k => simpa using ih r' k col (by simpa using h) (by simpa [catCols] using hk)
theorem catCol_left {n j : Nat} {x y : Col} {v : Value} (hj : j < n) (h : colDen x j v) : colDen (catCol n x y) j v := by
  have hb : Nat.blt j n = true := by rw [Nat.blt_eq]; exact hj
  have hn : Nat.beq n 0 = false := Bool.eq_false_iff.2 fun h => by have := Nat.eq_of_beq_eq_true h; omega
  cases x <;> cases y <;> simp only [catCol, hn, cond_false] <;> try trivial
  · rename_i k g k' g'
    cases hk : kEq k k'
    · trivial
    · simp only [colDen, cond_true, hb] at h ⊢; exact h
  · simp only [colDen, hb, cond_true] at h ⊢; exact h
theorem catCol_right {n j : Nat} {x y : Col} {v : Value} (hj : n ≤ j) (h : colDen y (j - n) v) : colDen (catCol n x y) j v := by
  have hb : Nat.blt j n = false := Bool.eq_false_iff.2 fun h => by rw [Nat.blt_eq] at h; omega
  cases x <;> cases y <;> simp only [catCol] <;> try trivial
  · rename_i k g k' g'
    cases hk : kEq k k'
    · trivial
    · obtain rfl := kEq_iff.1 hk
      simp only [colDen, cond_true, hb, cond_false] at h ⊢; exact h
  · simp only [colDen, hb, cond_false] at h ⊢; exact h
  · cases hn : Nat.beq n 0
    · trivial
    · have := Nat.eq_of_beq_eq_true hn
      subst this
      exact h
  · cases hn : Nat.beq n 0
    · trivial
    · have := Nat.eq_of_beq_eq_true hn
      subst this
      exact h

theorem sB_append {cl : Call} {b : BRes} (hT : TabOk P T) (hG : GlobOk T ρ) (hm : MR B w0 W ρ m) (ho : o.op = .call cl) (hs : OpsOk ρ sl a cl.args.toList) (h : stepB T sl m [] (.call cl) = some b) (hp : ∀ p ∈ b.pre, p) :
    OpTo P a o W (BPost B w0 ρ m b) := by
  have hc : sat a [] := fun q w hq => by cases hq
  simp only [stepB] at h
  split at h
  · rename_i x y t t' hcal hargs htys
    split at h
    · rename_i ti r n q k hti hx hy
      split at h
      · rename_i te e n' cols kq hte hr hq
        split at h
        · rename_i k' cols' hsrc
          cases hk : (Nat.beq t t' && Nat.beq ti.kind 3 && Nat.beq e ti.elem && Nat.beq cols.length te.size && Nat.beq cols'.length te.size && Nat.beq te.zero.length te.size && Nat.blt 0 te.size && colsKnown cols')
          · simp [hk] at h
          · simp only [hk, cond_true, Option.some.injEq] at h
            subst h
            simp only [Bool.and_eq_true, Nat.blt_eq] at hk
            obtain ⟨⟨⟨⟨⟨⟨⟨k1, k2⟩, k3⟩, k4⟩, k5⟩, k6⟩, k7⟩, k8⟩ := hk
            obtain rfl := Nat.eq_of_beq_eq_true k1
            obtain rfl := Nat.eq_of_beq_eq_true k3
            have k2 := Nat.eq_of_beq_eq_true k2
            have k4 := Nat.eq_of_beq_eq_true k4
            have k5 := Nat.eq_of_beq_eq_true k5
            have k6 := Nat.eq_of_beq_eq_true k6
            have p1 : n = n' := hp _ (by simp)
            have p2 : k = k' := hp _ (by simp)
            have p3 : 0 < k := hp _ (by simp)
            have p4 : (n + k) * te.bytes ≤ 140737488355328 := hp _ (by simp)
            have p5 : n + k ≤ 9223372036854775807 := hp _ (by simp)
            subst p1
            have hr := nthM hr
            have hq := nthM hq
            have hdx := useOp_den hG hx (hs.sub (by rw [hargs]; simp)) hc
            have hdy := useOp_den hG hy (hs.sub (by rw [hargs]; simp)) hc
            have hq0 := hdy
            obtain ⟨Aq, cq, hρq, _, _⟩ := hq0.sl_inv
            obtain ⟨ad, cc, news, ey, hnl, hnews, hone, hncol⟩ := srcCells (hm.blk q kq hq (by rw [hρq]; simp)) hsrc hdy p2 p3 (by omega) k8
            obtain ⟨A, c0, hρ, ex, _⟩ := hdx.sl_inv
            have hbr := hm.blk r _ hr (by rw [hρ]; simp)
            obtain ⟨A', c', vs, h1, h2, h3, h4⟩ := hbr
            rw [hρ] at h1
            simp only [Option.some.injEq, Prod.mk.injEq] at h1
            obtain ⟨rfl, rfl⟩ := h1
            obtain ⟨ht1, ht2⟩ := tiChk_slice (hT.types t ti hti) k2
            obtain ⟨i, hi, hisz, hiby, hiz⟩ := tiChk_info (hT.types _ te hte)
            obtain ⟨z, hz, hzd⟩ := hiz (fun e => by rw [e] at k6; simp at k6; omega)
            have hzs : z.cells.size = te.size := by have := (hzd ρ).1; rw [k6] at this; simpa using this
            have hml : n + k ≤ maxLen := by simp only [maxLen]; omega
            rw [k4] at h2
            rw [k5] at hnl
            obtain ⟨v', W', hrun, g1, g2, g3⟩ := run_append_own (P := P) W B t o.type ti.elem i z te.size te.bytes ht1 hi hz hisz hiby hzs k7 (.slice A n c0) n vs h2 ad k cc news hnl hnews hone hml p4 hm.le
            have hwhere := append_where (P := P) ht1 hi hz hisz hiby h2 hnl hnews hone p3 hml p4 hrun
            have hrun2 : (execOp a.eval o).run P W = .ok (.value v') W' := by
              have ha : cl.args = #[x, y] := by rw [← Array.toArray_toList (xs := cl.args), hargs]
              have hty : cl.argTypes = #[t, t] := by rw [← Array.toArray_toList (xs := cl.argTypes), htys]
              simp only [execOp, ho, resolve, hcal, ha, hty, invoke, builtin, Sem.run_bind, Sem.run_pure, Result.andThen_ok, List.map_toArray, List.map_cons, List.map_nil, ex, ey, hrun]
            -- the new slice's address
            obtain ⟨gn, capn, curn, hv', hgB, hgh, _⟩ : ∃ g cap cur, v' = .slice (some ⟨g, 0, none⟩) (n + k) cap ∧ B ≤ g ∧ W'.heap[g]? = some (.cells cur ti.elem (0, 0)) ∧ True := by
              rcases g1.2 with ⟨_, h0⟩ | ⟨g, cap, cur, e1, e2, e3, _⟩
              · omega
              · exact ⟨g, cap, cur, e1, e2, e3, trivial⟩
            subst hv'
            let σ : Env := fun s => if s = r then some (some ⟨gn, 0, none⟩, capn) else ρ s
            have hσr : σ r = some (some ⟨gn, 0, none⟩, capn) := by simp [σ]
            have hσo : ∀ s, s ≠ r → σ s = ρ s := fun s hs => by simp [σ, hs]
            have hσk : ∀ s y, s ∉ [r] → ρ s = some y → σ s = some y := fun s y hs hy => by rw [hσo s (by simpa using hs)]; exact hy
            have hrm : r < m.length := (List.getElem?_eq_some_iff.1 hr).1
            have hgne : ∀ s l, m[s]? = some l → s ≠ r → ∀ b d, ownOf l = true → ρ s = some (some b, d) → b.block ≠ gn := fun s l hl hsr b d hown hsb e => by
              rcases hwhere with hw | hw
              · cases A with
                | none => simp [Value.ownBlock] at hw
                | some aa =>
                  simp [Value.ownBlock] at hw
                  exact hsr (hm.sep s r l _ b aa d c0 hl hr hown rfl hsb hρ (by rw [e, hw]))
              · simp [Value.ownBlock] at hw
                have := (own_lt (hm.blk s l hl (by rw [hsb]; simp)) hown hsb).2
                omega
            have hWo : ∀ s l, m[s]? = some l → s ≠ r → ρ s ≠ none → BR B ρ W' s l := fun s l hl hsr hne => by
              have hb0 := hm.blk s l hl hne
              cases A with
              | none =>
                refine hb0.later hm.le ⟨g2.os, g2.tape, g2.output, g2.size, fun k hk => g2.block k hk (by simp [Value.ownBlock])⟩
              | some aa =>
                have haB : B ≤ aa.block := (own_lt (hm.blk r _ hr (by rw [hρ]; simp)) rfl hρ).1
                exact hb0.other haB g2 (fun b d hown hsb e => hsr (hm.sep s r l _ b aa d c0 hl hr hown rfl hsb hρ e)) hm.le
            refine OpTo.value hrun2 ⟨σ, hσk, .sl hσr (fun _ => by simp), ?_⟩
            simp only [updMem]
            refine ⟨hm.hB, hm.below.trans ⟨g2.os, g2.tape, g2.output, g2.size, fun kk hk => g2.block kk (by have := hm.le; omega) (fun e => ?_)⟩, fun s l hl hs' => ?_, fun s hs' => ?_, ?_⟩
            · cases A with
              | none => simp [Value.ownBlock] at e
              | some aa =>
                have haB : B ≤ aa.block := (own_lt (hm.blk r _ hr (by rw [hρ]; simp)) rfl hρ).1
                simp [Value.ownBlock] at e
                omega
            · rw [get_setAt, length_killMem] at hl
              by_cases e : s = r
              · subst e
                rw [if_pos ⟨rfl, hrm⟩] at hl
                simp only [Option.some.injEq] at hl
                subst hl
                have hcl : (catCols n cols cols').length = te.size := by rw [length_catCols n cols cols' (by omega)]; omega
                refine ⟨_, _, vs ++ news, hσr, by rw [hcl]; exact g1, by omega, fun j hj kk col hcol => ?_⟩
                obtain ⟨cx, cy, e1, e2, rfl⟩ := get_catCols n cols cols' kk col (by omega) hcol
                rw [hcl]
                have hvl : vs.length = n * te.size := h2.1
                have hkk := (List.getElem?_eq_some_iff.1 e1).1
                by_cases hjn : j < n
                · obtain ⟨u, hu, hdu⟩ := h4 j hjn kk cx e1
                  rw [k4] at hu
                  have hlt := (List.getElem?_eq_some_iff.1 hu).1
                  exact ⟨u, by rw [List.getElem?_append_left hlt]; exact hu, catCol_left hjn hdu⟩
                · obtain ⟨u, hu, hdu⟩ := hncol (j - n) (by omega) kk cy e2
                  rw [k5] at hu
                  refine ⟨u, ?_, catCol_right (by omega) hdu⟩
                  have e3 : j * te.size + kk = vs.length + ((j - n) * te.size + kk) := by
                    rw [hvl, Nat.sub_mul]
                    have := Nat.mul_le_mul_right te.size (by omega : n ≤ j)
                    omega
                  rw [e3, List.getElem?_append_right (by omega), Nat.add_sub_cancel_left]
                  exact hu
              · rw [if_neg (by omega), get_killMem, Option.map_eq_some_iff] at hl
                obtain ⟨l0, hl0, rfl⟩ := hl
                have hne : ρ s ≠ none := by rw [← hσo s e]; exact hs'
                have hst := (hWo s l0 hl0 e hne).struck (by simpa using e) hσk
                cases l0 <;> exact hst
            · rw [length_setAt, length_killMem]
              by_cases e : s = r
              · subst e; exact hrm
              · exact hm.dom s (by rw [← hσo s e]; exact hs')
            · have key : ∀ {s : Nat} {l : MBlk}, (setAt (killMem [r] m) r (.oarr ti.elem (n + k) (catCols n cols cols')))[s]? = some l → ∃ l0, m[s]? = some l0 ∧ ownOf l0 = ownOf l := fun {s l} hl => by
                rw [get_setAt, length_killMem] at hl
                by_cases e : s = r
                · subst e
                  rw [if_pos ⟨rfl, hrm⟩] at hl
                  simp only [Option.some.injEq] at hl
                  subst hl
                  exact ⟨_, hr, rfl⟩
                · rw [if_neg (by omega), get_killMem, Option.map_eq_some_iff] at hl
                  obtain ⟨l0, hl0, rfl⟩ := hl
                  refine ⟨l0, hl0, ?_⟩
                  cases l0 <;> rfl
              intro s1 s2 l1 l2 a1 a2 c1 c2 hl1 hl2 ho1 ho2 hr1 hr2 hb
              obtain ⟨m1, hm1, e1⟩ := key hl1
              obtain ⟨m2, hm2, e2⟩ := key hl2
              by_cases q1 : s1 = r
              · by_cases q2 : s2 = r
                · rw [q1, q2]
                · subst q1
                  rw [hσr] at hr1
                  simp only [Option.some.injEq, Prod.mk.injEq] at hr1
                  rw [hσo s2 q2] at hr2
                  exact absurd (by rw [← hb, ← hr1.1]) (hgne s2 m2 hm2 q2 a2 c2 (e2.trans ho2) hr2)
              · by_cases q2 : s2 = r
                · subst q2
                  rw [hσr] at hr2
                  simp only [Option.some.injEq, Prod.mk.injEq] at hr2
                  rw [hσo s1 q1] at hr1
                  exact absurd (by rw [hb, ← hr2.1]) (hgne s1 m1 hm1 q1 a1 c1 (e1.trans ho1) hr1)
                · rw [hσo s1 q1] at hr1
                  rw [hσo s2 q2] at hr2
                  exact hm.sep s1 s2 m1 m2 a1 a2 c1 c2 hm1 hm2 (e1.trans ho1) (e2.trans ho2) hr1 hr2 hb
        · cases h
      · cases h
    · cases h
  · cases h

/-- **Every operation that changes known memory.** -/
theorem stepB_sound {b : BRes} (hT : TabOk P T) (hG : GlobOk T ρ) (hm : MR B w0 W ρ m) (hs : OpsOk ρ sl a o.op.operands.toList) (h : stepB T sl m [] o.op = some b) (hp : ∀ p ∈ b.pre, p) : OpTo P a o W (BPost B w0 ρ m b) := by
  generalize ho : o.op = op at h hs
  cases op
  case store t x y => exact sB_store hT hG hm ho (hs.sub (by simp [Op.operands])) h
  case call cl => exact sB_append hT hG hm ho (hs.sub (by intro x hx; simp [Op.operands, Call.operands]; right; simpa using hx)) h hp
  all_goals simp [stepB] at h
end
end Go.Proofs.YtbhopcgbdofcjaaDoor.Sx
