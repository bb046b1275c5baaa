/-
  A symbolic executor for the model's code: a region whose order the tape picks, where some operations are taken first.
-/
import Derived.Test.YtiokmglajigngaaSu9
namespace Go.Proofs.Ytiokmglajigngaa.Sx
open Go Go.RowKit
abbrev Held := List (Nat × Nat × IntKind × Int)
/-- The cells that are held are there. -/
def HeldIn (rs : Held) (m : List MBlk) : Prop := ∀ h, h ∈ rs → ∃ cs, m[h.1]? = some (.cells cs) ∧ cs[h.2.1]? = some (.i h.2.2.1 h.2.2.2)
/-- The held cells in a world. -/
def heldS (ρ : Env) (rs : Held) : World → Prop := fun w => ∀ h, h ∈ rs → ∀ g c, ρ h.1 = some (some ⟨g, 0, none⟩, c) → w.cell? ⟨g, h.2.1, none⟩ = some (.int h.2.2.1 h.2.2.2)
theorem HeldIn.app {rs : Held} {m : List MBlk} (h : HeldIn rs m) (new : List MBlk) : HeldIn rs (m ++ new) := fun x hx => by
  obtain ⟨cs, h1, h2⟩ := h x hx
  exact ⟨cs, by rw [List.getElem?_append_left (List.getElem?_eq_some_iff.1 h1).1]; exact h1, h2⟩
theorem notIn_get {rs : Held} {d : List Nat} (h : notIn rs d = true) : ∀ x ∈ rs, x.1 ∉ d := by
  induction rs with
  | nil => intro x hx; cases hx
  | cons y r ih =>
    intro x hx
    simp only [notIn, Bool.and_eq_true, Bool.not_eq_true'] at h
    rcases List.mem_cons.1 hx with rfl | hx
    · intro hm; rw [memN_iff.2 hm] at h; exact absurd h.1 (by simp)
    · exact ih h.2 x hx
theorem updMem_off {u : List (Nat × MBlk)} : ∀ {m : List MBlk} {r : Nat}, r ∉ u.map (·.1) → (updMem m u)[r]? = m[r]? := by
  induction u with
  | nil => intro m r _; rfl
  | cons p u ih =>
    intro m r hr
    obtain ⟨q, k⟩ := p
    simp only [List.map_cons, List.mem_cons, not_or] at hr
    simp only [updMem]
    rw [ih hr.2, get_setAt, if_neg (by omega)]
theorem HeldIn.opB {T : Tab} {ops : List Oper} {rs : Held} {sl sl' : List Slot} {m m' : List MBlk} {o : Oper} {ps : List Prop} {ds : List Nat} (h : HeldIn rs m) (hB : opB T ops sl m o = some (ps, sl', m', ds)) (hn : notIn rs ds = true) : HeldIn rs m' := by
  unfold Sx.opB at hB
  split at hB
  · cases hdf : dstFree o.dst sl
    · simp [hdf] at hB
    · simp only [hdf, cond_true] at hB
      split at hB
      · rename_i b hb
        cases hgf : globFree b.kill (prot T)
        · simp [hgf] at hB
        · simp only [hgf, cond_true] at hB
          split at hB
          · simp only [Option.some.injEq, Prod.mk.injEq] at hB
            obtain ⟨rfl, rfl, rfl, rfl⟩ := hB
            rw [app_eq]
            refine HeldIn.app (fun x hx => ?_) _
            obtain ⟨cs, h1, h2⟩ := h x hx
            refine ⟨killCells b.kill cs, ?_, ?_⟩
            · rw [updMem_off (notIn_get hn x hx), get_killMem, h1]; rfl
            · rw [get_killCells, h2]
              rfl
          · cases hB
      · cases hB
  · cases hB
theorem tailMask_get {k L : Nat} : ∀ {l : List Nat} {b : Nat}, tailMask k L b l = true → ∀ {j a : Nat}, l[j]? = some a → ∀ i, i < b + j → k ≤ i → Nat.testBit L i = false → Nat.testBit a i = true := by
  intro l
  induction l with
  | nil => intro b _ j a h; simp at h
  | cons x r ih =>
    intro b h j a hj i hi hk hL
    simp only [tailMask, Bool.and_eq_true] at h
    cases j with
    | zero =>
      simp at hj
      subst hj
      have h1 := Nat.eq_of_beq_eq_true h.1
      have h2 := congrArg (fun n => Nat.testBit n i) h1
      simp only [Nat.testBit_and, Nat.testBit_or, Nat.one_shiftLeft, Nat.testBit_two_pow_sub_one] at h2
      have h3 : decide (i < b) = true := by simp; omega
      have h4 : decide (i < k) = false := by simp; omega
      simpa [h3, h4, hL] using h2
    | succ j => exact ih h.2 (by simpa using hj) i (by omega) hk hL
theorem lateGo_bit {n : Nat} : ∀ {l : List Oper} {i j : Nat}, Nat.testBit (lateGo n i l) j = true → j < n ∧ ∃ o, i ≤ j ∧ l[j - i]? = some o ∧ lateOp o = true := by
  intro l
  induction l with
  | nil => intro i j h; simp [lateGo] at h
  | cons o r ih =>
    intro i j h
    simp only [lateGo, Nat.testBit_or, Bool.or_eq_true] at h
    rcases h with h | h
    · cases hc : (lateOp o && Nat.blt i n) <;> rw [hc] at h
      · simp at h
      · simp only [cond_true, Nat.one_shiftLeft, Nat.testBit_two_pow, decide_eq_true_eq] at h
        subst h
        simp only [Bool.and_eq_true, Nat.blt_eq] at hc
        exact ⟨hc.2, o, Nat.le_refl _, by simp, hc.1⟩
    · obtain ⟨h1, o', h2, h3, h4⟩ := ih h
      refine ⟨h1, o', by omega, ?_, h4⟩
      rw [show j - i = (j - (i + 1)) + 1 by omega]
      simpa using h3
theorem lateFree_bit {ops : Array Oper} {L0 : Nat} {lst : Array Bool} : ∀ {n j : Nat}, Nat.testBit (lateFree ops L0 lst n) j = true → j < n ∧ Nat.testBit L0 j = true ∧ Region.free .any ops lst j = true := by
  intro n
  induction n with
  | zero => intro j h; simp [lateFree] at h
  | succ n ih =>
    intro j h
    simp only [lateFree, Nat.testBit_or, Bool.or_eq_true] at h
    rcases h with h | h
    · cases hc : (Nat.testBit L0 n && Region.free .any ops lst n) <;> rw [hc] at h
      · simp at h
      · simp only [cond_true, Nat.one_shiftLeft, Nat.testBit_two_pow, decide_eq_true_eq] at h
        subst h
        simp only [Bool.and_eq_true] at hc
        exact ⟨Nat.lt_succ_self _, hc.1, hc.2⟩
    · obtain ⟨h1, h2⟩ := ih h
      exact ⟨by omega, h2⟩
theorem allBut_get {size L : Nat} : ∀ {n j : Nat}, j < size → (allBut size L n).getD j true = true → j < n ∧ Nat.testBit L j = false := by
  intro n
  induction n with
  | zero => intro j hj h; simp [allBut, hj] at h
  | succ n ih =>
    intro j hj h
    simp only [allBut] at h
    cases hb : Nat.testBit L n <;> rw [hb] at h
    · simp only [cond_false] at h
      by_cases e : j = n
      · subst e; exact ⟨Nat.lt_succ_self _, hb⟩
      · rw [getD_set_ne true (Ne.symm e)] at h
        obtain ⟨h1, h2⟩ := ih hj h
        exact ⟨by omega, h2⟩
    · obtain ⟨h1, h2⟩ := ih hj h
      exact ⟨by omega, h2⟩
/-- Freer where more have come up. -/
theorem free_mono {ops : Array Oper} {l1 l2 : Array Bool} {i : Nat} (h : Region.free .any ops l1 i = true) (hl : ∀ j, j < ops.size → l1.getD j true = true → l2.getD j true = true) : Region.free .any ops l2 i = true := by
  unfold Region.free at h ⊢
  split at h
  · cases h
  · rename_i oi hoi
    simp only [hoi, List.all_eq_true, List.mem_range, Bool.or_eq_true] at h ⊢
    intro j hj
    rcases h j hj with (h1 | h1) | h1
    · exact .inl (.inl h1)
    · exact .inl (.inr (hl j hj h1))
    · exact .inr h1
/-- What an operation that may come late yields, it yields in every world. -/
theorem late_pure {P : Program} {o : Oper} {a : Act} {W : World} {K : Act → World → Prop} (hl : lateOp o = true) (h : o.wp P a W K (fun _ _ _ => False) ∨ (o.asks P a W ∧ LetsOut (fun _ _ _ => False))) : ∃ v, (∀ w, (execOp a.eval o).run P w = .ok (.value v) w) ∧ K (a.put o.dst v) W := by
  have hw : o.wp P a W K (fun _ _ _ => False) := h.elim id fun ⟨_, _, _, hf⟩ => hf.elim
  unfold lateOp at hl
  split at hl
  · cases hl
  · split at hl
    · rename_i x ho
      have hx : ∀ w, (execOp a.eval o).run P w = .ok (.value (a.eval x)) w := fun w => by simp [execOp, ho]
      refine ⟨a.eval x, hx, ?_⟩
      unfold Oper.wp at hw
      rw [hx W, Oper.upon_value] at hw
      exact hw
    · rename_i x k ho
      cases hv : a.eval x with
      | tuple vs =>
        cases hk : vs[k]? with
        | some v =>
          have hx : ∀ w, (execOp a.eval o).run P w = .ok (.value v) w := fun w => by simp [execOp, ho, hv, Instr.extract, hk]
          refine ⟨v, hx, ?_⟩
          unfold Oper.wp at hw
          rw [hx W, Oper.upon_value] at hw
          exact hw
        | none => exact (by simp [Oper.wp, execOp, ho, hv, Instr.extract, hk, Oper.upon] at hw)
      | _ => exact (by simp [Oper.wp, execOp, ho, hv, Instr.extract, Oper.upon] at hw)
    · cases hl
section
variable {P : Program} {T : Tab} {B : Lim} {w0 : World}
theorem phaseBH {ops : Array Oper} {Q : Exit → Act → World → Prop} {an : List Nat} (han : an = ancsGo ops.toList []) (hed : edgesOk 0 ops.toList = true) {SS : World → Prop} {rs : List (Nat × Nat × IntKind × Int)} {T : Tab} (hT : TabOk P T) (hSS : ∀ (sl : List Slot) (m : List MBlk) (ρ : Env) (a : Act) (W : World), Rel T B w0 ρ sl m a W → HeldIn rs m → SS W) {n0 kk LL : Nat} (hkk : kk ≤ n0) (hLL : ∀ i, Nat.testBit LL i = true → i < n0) (htl : tailMask kk LL n0 (dropN n0 an) = true) :
    ∀ (l : List Oper) (b : Nat) (s s' : St) (ps : List Prop) (fuel : Nat) (listed : Array Bool) (ρ : Env) (a : Act) (W : World), n0 ≤ b → b ≤ ops.toList.length → l = ops.toList.drop b → seqH T ops.toList rs l s = some (ps, s') → (∀ p ∈ ps, p) →
      Rel T B w0 ρ s.slots s.mem a W → HeldIn rs s.mem → listed.size = ops.toList.length → (∀ j, j < ops.toList.length → (listed.getD j false = true ↔ j < b)) → ops.toList.length ≤ fuel + b →
      (∀ ρ a W, Rel T B w0 ρ (clean s'.slots) s'.mem a W → Q .normal a W) → wpAnyH P .any ops Q SS fuel listed a W := by
  intro l
  induction l with
  | nil =>
    intro b s s' ps fuel listed ρ a W h0 hbl hl h _ hr hhd hsz hls _ hQ
    simp only [seqH, Option.some.injEq, Prod.mk.injEq] at h
    obtain ⟨rfl, rfl⟩ := h
    have hb : b = ops.toList.length := by
      have : (ops.toList.drop b).length = 0 := by rw [← hl]; rfl
      rw [List.length_drop] at this
      omega
    have hnone : Region.ready .any ops listed = [] := by
      apply List.eq_nil_iff_forall_not_mem.2
      intro i hi
      obtain ⟨h1, o, ho, _⟩ := mem_ready.1 hi
      have hil : i < ops.toList.length := by
        have := (Array.getElem?_eq_some_iff.1 ho).1
        simpa using this
      rw [listed_two (by omega), (hls i hil).2 (by omega)] at h1
      cases h1
    have hfin := hQ ρ a W ⟨hr.fr.clean, hr.mr, hr.gl, hr.df⟩
    cases fuel with
    | zero => exact ⟨hnone, hfin⟩
    | succ f => exact ⟨fun _ => hfin, fun i hi => by rw [hnone] at hi; cases hi⟩
  | cons o l ih =>
    intro b s s' ps fuel listed ρ a W h0 hbl hl h hp hr hhd hsz hls hfu hQ
    have hb : b < ops.toList.length := by
      have : (ops.toList.drop b).length = l.length + 1 := by rw [← hl]; rfl
      rw [List.length_drop] at this
      omega
    have ho : ops.toList[b]? = some o := by
      have : (ops.toList.drop b)[0]? = some o := by rw [← hl]; rfl
      simpa using this
    have hl' : l = ops.toList.drop (b + 1) := by
      have : (ops.toList.drop b).drop 1 = l := by rw [← hl]; rfl
      rw [← this, List.drop_drop]
    have hanl : an.length = ops.toList.length := by rw [han]; have := (ancsGo_spec ops.toList []).1; simpa using this
    have hcl : ∀ j aj, an[j]? = some aj → listed.getD j true = true → ∀ k, Nat.testBit aj k = true → listed.getD k false = true := fun j aj haj hlj k hk => by
      have hjl : j < ops.toList.length := by
        have := (List.getElem?_eq_some_iff.1 haj).1
        omega
      rw [listed_two (by omega)] at hlj
      have h1 := (hls j hjl).1 hlj
      have h2 := anc_lt han hed j aj haj k hk
      exact (hls k (by omega)).2 (by omega)
    have honly : ∀ i ∈ Region.ready .any ops listed, i = b := fun i hi => by
      obtain ⟨h1, o', ho', _⟩ := mem_ready.1 hi
      have hil : i < ops.toList.length := by
        have := (Array.getElem?_eq_some_iff.1 ho').1
        simpa using this
      have hib : ¬ i < b := fun hib => by
        rw [listed_two (by omega), (hls i hil).2 hib] at h1
        cases h1
      refine Classical.byContradiction fun hne => ?_
      obtain ⟨ai, hai⟩ : ∃ ai, an[i]? = some ai := ⟨_, List.getElem?_eq_getElem (by omega)⟩
      have hd : (dropN n0 an)[i - n0]? = some ai := by
        rw [dropN_eq, List.getElem?_drop, show n0 + (i - n0) = i by omega]
        exact hai
      have := ready_anc han hed hcl hsz hi hai b (tailMask_get htl hd b (by omega) (by omega) (Bool.eq_false_iff.2 fun h => by have := hLL b h; omega))
      have := (hls b hb).1 this
      omega
    have ho2 : ops[b]? = some o := by simpa using ho
    have hnext : ∀ j, j < ops.toList.length → ((listed.setIfInBounds b true).getD j false = true ↔ j < b + 1) := fun j hj => by
      by_cases e : j = b
      · subst e
        have hlt : j < listed.size := by omega
        simp [hlt]
      · rw [getD_set_ne false (Ne.symm e), hls j hj]
        omega
    have hstep : ∀ f, ops.toList.length ≤ f + (b + 1) → if Region.wanted o (yielded ops a.tmps) then o.wp P a W (fun a' w' => SS w' ∧ wpAnyH P .any ops Q SS f (listed.setIfInBounds b true) a' w') Q else (SS W ∧ wpAnyH P .any ops Q SS f (listed.setIfInBounds b true) (a.put o.dst undef) W) := fun f hf => by
      simp only [seqH] at h
      split at h
      · rename_i ps1 sl1 m1 hA
        split at h
        · rename_i qs s1 hrest
          simp only [Option.some.injEq, Prod.mk.injEq] at h
          obtain ⟨rfl, rfl⟩ := h
          have hhd1 : HeldIn rs m1 := by
            obtain ⟨new, hnew⟩ := (opA_shape hA).1
            rw [hnew]; exact hhd.app new
          exact opA_rel (P := P) (ops := ops) (Q := Q) (K := fun a' w' => SS w' ∧ wpAnyH P .any ops Q SS f (listed.setIfInBounds b true) a' w') hT hr hA (fun p h => hp p (List.mem_append.2 (.inl h))) fun ρ' a' W' hr' =>
            ⟨hSS _ _ _ _ _ hr' hhd1, ih (b + 1) ⟨sl1, m1, s.dirty⟩ s1 qs f _ ρ' a' W' (by omega) (by omega) hl' hrest (fun p h => hp p (List.mem_append.2 (.inr h))) hr' hhd1 (by simpa using hsz) hnext hf hQ⟩
        · cases h
      · split at h
        · rename_i ps1 sl1 m1 ds hB
          cases hni : notIn rs ds
          · rw [hni] at h; cases h
          rw [hni, cond_true] at h
          have hhd1 : HeldIn rs m1 := hhd.opB hB hni
          split at h
          · rename_i qs s1 hrest
            simp only [Option.some.injEq, Prod.mk.injEq] at h
            obtain ⟨rfl, rfl⟩ := h
            exact opB_rel (P := P) (ops := ops) (Q := Q) (K := fun a' w' => SS w' ∧ wpAnyH P .any ops Q SS f (listed.setIfInBounds b true) a' w') hT hr hB (fun p h => hp p (List.mem_append.2 (.inl h))) fun ρ' a' W' hr' =>
              ⟨hSS _ _ _ _ _ hr' hhd1, ih (b + 1) ⟨sl1, m1, ds ++ s.dirty⟩ s1 qs f _ ρ' a' W' (by omega) (by omega) hl' hrest (fun p h => hp p (List.mem_append.2 (.inr h))) hr' hhd1 (by simpa using hsz) hnext hf hQ⟩
          · cases h
        · cases h
    have step : ∀ (f : Nat), ops.toList.length ≤ f + (b + 1) → ∀ i ∈ Region.ready .any ops listed, wpOp P ops Q i (fun a' w' => SS w' ∧ wpAnyH P .any ops Q SS f (listed.setIfInBounds i true) a' w') a W := fun f hf i hi => by
      obtain rfl := honly i hi
      have key := hstep f hf
      unfold wpOp
      simp only [ho2]
      split
      · rename_i hw
        rw [if_pos hw] at key
        exact .inl key
      · rename_i hw
        rw [if_neg hw] at key
        exact key
    have hne : Region.ready .any ops listed ≠ [] := fun hn => by
      have hmem : b ∈ Region.ready .any ops listed := mem_ready.2 ⟨by
        have : ¬ listed.getD b false = true := fun hh => by have := (hls b hb).1 hh; omega
        rw [listed_two (by omega)]
        exact Bool.eq_false_iff.2 this, o, ho2, fun e he hbb => by
          have := edgesLt_get (edgesOk_get hed ho) (e := e) (by simpa using he) hbb
          exact (hls e.on (by omega)).2 (by omega)⟩
      rw [hn] at hmem
      cases hmem
    cases fuel with
    | zero => omega
    | succ f => exact ⟨fun hn => absurd hn hne, step f (by omega)⟩
theorem phaseAH {ops : Array Oper} {Q : Exit → Act → World → Prop} {an : List Nat} {S : Nat → List Slot} {M : Nat → List MBlk} {p : Nat → List Prop} {ls : List (List Nat)} {s' : St} {dirty : List Nat} {ps : List Prop} {SS : World → Prop} {rs : List (Nat × Nat × IntKind × Int)} {T : Tab} (hT : TabOk P T) (hSS : ∀ (sl : List Slot) (m : List MBlk) (ρ : Env) (a : Act) (W : World), Rel T B w0 ρ sl m a W → HeldIn rs m → SS W) (hSI : ∀ (ρ : Env) (m : List MBlk) (W : World), MR B w0 W ρ m → GlobOk T ρ → HeldIn rs m → SS W) (hhd : HeldIn rs (M ls.length)) {kk : Nat} (hkk : kk ≤ ls.length) (hns : Region.noSelect ops = true) (hQp : ∀ c a w, ¬ Q (.panic c) a w)
    (han : an = ancsGo ops.toList []) (hed : edgesOk 0 ops.toList = true) (hlk : allLooks ops.toList an 0 ls an = true) (hcln : allClean (S 0) = true) (hpre : Pre ops.toList S ls.length)
    (hst : ∀ i, i < ls.length → ∃ o, ops.toList[i]? = some o ∧ opA T ops.toList (S i) (M i) o = some (p i, S (i + 1), M (i + 1)) ∧ ls[i]? = some (looksOf (S i) ops.toList o)) (hle : ls.length ≤ ops.toList.length) (hps : ∀ i, i < ls.length → ∀ q ∈ p i, q)
    (htl : tailMask kk (lateOf ops ls.length) ls.length (dropN ls.length an) = true) (hB : seqH T ops.toList rs (ops.toList.drop ls.length) ⟨S ls.length, M ls.length, dirty⟩ = some (ps, s')) (hp : ∀ q ∈ ps, q) (hQ : ∀ ρ a W, Rel T B w0 ρ (clean s'.slots) s'.mem a W → Q .normal a W) :
    ∀ (fuel : Nat) (listed : Array Bool) (a : Act) (W : World), Inv T B w0 ops.toList an S M ls.length listed a W → (∀ j, j < kk → listed.getD j false = true) → ops.toList.length ≤ fuel + listed.toList.count true → wpAnyH P .any ops Q SS fuel listed a W := by
  have hanl : an.length = ops.toList.length := by rw [han]; have := (ancsGo_spec ops.toList []).1; simpa using this
  intro fuel
  induction fuel with
  | zero =>
    intro listed a W hI hk0 hf
    exact done 0 listed a W hI (by
      have h1 : listed.toList.count true ≤ ls.length := cntle listed hI
      omega) (fun j hj => Classical.byContradiction fun hne => by
      have := (cnt_full hI.size).2 ⟨j, by omega, Bool.eq_false_iff.2 hne⟩
      omega)
  | succ fuel ih =>
    intro listed a W hI hk0 hf
    by_cases hall : ∀ j, j < ls.length → listed.getD j false = true
    · exact done (fuel + 1) listed a W hI (by
        have h1 : listed.toList.count true ≤ ls.length := cntle listed hI
        omega) hall
    · obtain ⟨j, hj⟩ := Classical.not_forall.1 hall
      have hjn : j < ls.length := Classical.byContradiction fun h => hj (fun h' => absurd h' h)
      have hjf : listed.getD j false = false := Bool.eq_false_iff.2 fun h => hj (fun _ => h)
      by_cases htl2 : ∃ i, i ∈ Region.ready .any ops listed ∧ ls.length ≤ i
      · -- one of the second kind may come up: the least one that has not come up is late, and is taken
        obtain ⟨i, hi, hil⟩ := htl2
        have hilt : i < ops.toList.length := by
          obtain ⟨_, o', ho', _⟩ := mem_ready.1 hi
          have := (Array.getElem?_eq_some_iff.1 ho').1
          simpa using this
        have hlate : ∀ k, k < ls.length → listed.getD k false = false → Nat.testBit (lateOf ops ls.length) k = true := fun k hk hkf => by
          refine Classical.byContradiction fun hne => ?_
          obtain ⟨ai, hai⟩ : ∃ ai, an[i]? = some ai := ⟨_, List.getElem?_eq_getElem (by omega)⟩
          have hd : (dropN ls.length an)[i - ls.length]? = some ai := by
            rw [dropN_eq, List.getElem?_drop, show ls.length + (i - ls.length) = i by omega]
            exact hai
          have hjk : kk ≤ k := Nat.le_of_not_lt fun h => by rw [hk0 k h] at hkf; cases hkf
          have := ready_anc han hed hI.closed hI.size hi hai k (tailMask_get htl hd k (by omega) hjk (Bool.eq_false_iff.2 hne))
          rw [this] at hkf
          cases hkf
        obtain ⟨k, hk, hkf, hmin⟩ : ∃ k, k < ls.length ∧ listed.getD k false = false ∧ ∀ q, q < k → listed.getD q false = true := by
          have : ∀ b, (∃ k, k < b ∧ k < ls.length ∧ listed.getD k false = false) → ∃ k, k < ls.length ∧ listed.getD k false = false ∧ ∀ q, q < k → listed.getD q false = true := by
            intro b
            induction b with
            | zero => rintro ⟨k, h, _⟩; omega
            | succ b ihb =>
              rintro ⟨k, h1, h2, h3⟩
              by_cases hex : ∃ k, k < b ∧ k < ls.length ∧ listed.getD k false = false
              · exact ihb hex
              · have hkb : k = b := by
                  refine Classical.byContradiction fun hne => hex ⟨k, by omega, h2, h3⟩
                subst hkb
                refine ⟨k, h2, h3, fun q hq => ?_⟩
                cases hqv : listed.getD q false
                · exact (hex ⟨q, hq, by omega, hqv⟩).elim
                · rfl
          exact this (j + 1) ⟨j, Nat.lt_succ_self _, hjn, hjf⟩
        have hbit := hlate k hk hkf
        obtain ⟨_, hb0, hfree⟩ := lateFree_bit hbit
        obtain ⟨_, o, _, hol, hop⟩ := lateGo_bit (n := ls.length) (l := ops.toList) (i := 0) (j := k) (by rw [Nat.testBit_and, Bool.and_eq_true] at hb0; exact hb0.1)
        simp only [Nat.sub_zero] at hol
        have ho2 : ops[k]? = some o := by simpa using hol
        have hready : k ∈ Region.ready .any ops listed := mem_ready.2 ⟨by rw [listed_two (by rw [hI.size]; omega)]; exact hkf, o, ho2, fun e he hbb => by
          have := edgesLt_get (edgesOk_get hed hol) (e := e) (by simpa using he) hbb
          exact hmin e.on (by omega)⟩
        have hfr2 : Region.free .any ops listed k = true := free_mono hfree fun q hq hqv => by
          obtain ⟨q1, q2⟩ := allBut_get hq hqv
          have hqs : q < listed.size := by rw [hI.size]; simpa using hq
          rw [listed_two hqs]
          cases hqf : listed.getD q false
          · have hb := hlate q q1 hqf
            rw [(lateFree_bit hb).2.1] at q2
            cases q2
          · rfl
        have hstep := inv_step (Q := fun _ _ _ => False) (K := fun a' W' => Inv T B w0 ops.toList an S M ls.length (listed.setIfInBounds k true) a' W') hT han hed hlk hcln hpre hst hle hps hI hk hready fun a' W' h => h
        have hgd : o.guard = none := by
          unfold lateOp at hop
          split at hop
          · cases hop
          · assumption
        have hwant : Region.wanted o (yielded ops a.tmps) = true := by simp [Region.wanted, hgd]
        unfold wpOp at hstep
        simp only [ho2, hwant, if_true] at hstep
        obtain ⟨v, hv1, hv2⟩ := late_pure hop hstep
        have hSW : SS W := by obtain ⟨ρ', _, _, q1, q2, _⟩ := hI.rel; exact hSI ρ' _ W q1 q2 hhd
        refine wpAnyH_take ho2 hns hfr2 (by simpa using hready) (fun c a w hq => absurd hq (hQp _ _ _)) (.inl ⟨hwant, fun w _ => hv1 w⟩) hSW (ih _ _ W hv2 (fun j hj => getD_set_true (hk0 j hj)) ?_)
        rw [cnt_set (by rw [hI.size]; omega) hkf]
        omega
      refine ⟨fun hn => ?_, fun i hi => ?_⟩
      · -- the least one that has not come up is ready
        have least : ∀ k, k < ls.length → listed.getD k false = true := by
          intro k
          induction k using Nat.strongRecOn with
          | _ k ihk =>
            intro hk
            refine Classical.byContradiction fun hkf => ?_
            obtain ⟨o, ho, _⟩ := hst k hk
            have : k ∈ Region.ready .any ops listed := mem_ready.2 ⟨by rw [listed_two (by rw [hI.size]; omega)]; exact Bool.eq_false_iff.2 hkf, o, by simpa using ho, fun e he hbb => by
              have := edgesLt_get (edgesOk_get hed ho) (e := e) (by simpa using he) hbb
              exact ihk e.on (by omega) (by omega)⟩
            rw [hn] at this
            cases this
        rw [least j hjn] at hjf
        cases hjf
      · obtain ⟨h1, o', ho', _⟩ := mem_ready.1 hi
        have hil : i < ops.toList.length := by
          have := (Array.getElem?_eq_some_iff.1 ho').1
          simpa using this
        have hin : i < ls.length := Nat.lt_of_not_le fun h => htl2 ⟨i, hi, h⟩
        refine inv_step hT han hed hlk hcln hpre hst hle hps hI hin hi fun a' W' hI' => ⟨(by obtain ⟨ρ', _, _, q1, q2, _⟩ := hI'.rel; exact hSI ρ' _ W' q1 q2 hhd), ih _ a' W' hI' (fun j hj => getD_set_true (hk0 j hj)) ?_⟩
        rw [cnt_set (by rw [hI.size]; omega) (by rw [← listed_two (by rw [hI.size]; omega)]; exact h1)]
        omega
where
  cntle (listed : Array Bool) {a : Act} {W : World} (hI : Inv T B w0 ops.toList an S M ls.length listed a W) : listed.toList.count true ≤ ls.length := by
    have e : listed.toList.count true = (listed.toList.take ls.length).count true + (listed.toList.drop ls.length).count true := by
      rw [← List.count_append, List.take_append_drop]
    have h0 : (listed.toList.drop ls.length).count true = 0 := by
      rw [List.count_eq_zero]
      intro hm
      obtain ⟨j, hj⟩ := List.mem_iff_getElem?.1 hm
      rw [List.getElem?_drop] at hj
      have hlt := (List.getElem?_eq_some_iff.1 hj).1
      have hsz : listed.toList.length = ops.toList.length := by rw [← hI.size]; simp
      have := hI.tail (ls.length + j) (by omega) (by omega)
      simp at hj
      simp [hj] at this
    have h1 : (listed.toList.take ls.length).count true ≤ (listed.toList.take ls.length).length := List.count_le_length
    rw [List.length_take] at h1
    omega
  done (fuel : Nat) (listed : Array Bool) (a : Act) (W : World) (hI : Inv T B w0 ops.toList an S M ls.length listed a W) (hf : ops.toList.length ≤ fuel + ls.length) (hall : ∀ j, j < ls.length → listed.getD j false = true) : wpAnyH P .any ops Q SS fuel listed a W := by
    obtain ⟨ρ, hsz, hcur, hmr, hgl, hdf, _⟩ := hI.rel
    have hiff : ∀ j, j < ops.toList.length → (listed.getD j false = true ↔ j < ls.length) := by
      intro j hj
      constructor
      · intro h
        refine Classical.byContradiction fun hne => ?_
        have := hI.tail j (by omega) hj
        rw [listed_two (by rw [hI.size]; exact hj), h] at this
        cases this
      · exact hall j
    refine phaseBH han hed hT hSS hkk (fun i hi => (lateFree_bit hi).1) htl _ ls.length ⟨S ls.length, M ls.length, dirty⟩ s' ps fuel listed ρ a W (Nat.le_refl _) hle rfl hB hp ⟨⟨by rw [hpre.len _ (Nat.le_refl _), hsz], fun d s hs => hcur d s ?_⟩, hmr, hgl, hdf⟩ hhd hI.size hiff hf hQ
    by_cases hw : ∃ j oj, j < ls.length ∧ ops.toList[j]? = some oj ∧ oj.dst = some d
    · obtain ⟨j, oj, hjn, hoj, hdj⟩ := hw
      refine .inl ⟨j, oj, hjn, hall j hjn, hoj, hdj, ?_⟩
      rw [← hs]
      exact (hpre.keep (j + 1) ls.length (by omega) (Nat.le_refl _) fun k ok hk hki hok hdk => by
        have := dstsOk_get hpre.dsts hoj hok hdj hdk
        omega).symm
    · refine .inr ⟨fun j oj hjn _ hoj hdj => hw ⟨j, oj, hjn, hoj, hdj⟩, ?_⟩
      rw [← hs]
      exact (hpre.keep 0 ls.length (by omega) (Nat.le_refl _) fun k ok _ hki hok hdk => hw ⟨k, ok, hki, hok, hdk⟩).symm
theorem heldS_of {ρ0 ρ : Env} {rs : Held} {m : List MBlk} {W : World} (hm : MR B w0 W ρ m) (hh : HeldIn rs m) (hp : ∀ h, h ∈ rs → ∀ y, ρ0 h.1 = some y → ρ h.1 = some y) : heldS ρ0 rs W := fun h hr g c hg => by
  obtain ⟨cs, h1, h2⟩ := hh h hr
  have hρ := hp h hr _ hg
  obtain ⟨g', ty, vs, c', e1, _, e3, e4⟩ := hm.blk h.1 _ h1 (by rw [hρ]; simp)
  rw [hρ] at e1
  simp only [Option.some.injEq, Prod.mk.injEq, Addr.mk.injEq, and_true] at e1
  obtain ⟨rfl, rfl⟩ := e1
  obtain ⟨v, hv, hd⟩ := e4.get h2
  rw [cell_of_row W g h.2.1 vs.toArray ty (0, 0) e3]
  rw [hd.i_inv] at hv
  simpa using hv
/-- One operation that is taken first. -/
theorem tk_step {ops : Array Oper} {ρ0 ρ : Env} {rs h : Held} {sl sl' : List Slot} {m m' : List MBlk} {o : Oper} {ps : List Prop} {a : Act} {W : World} (hT : TabOk P T) (hr : Rel T B w0 ρ sl m a W) (hA : opA T ops.toList sl m o = some (ps, sl', m')) (hp : ∀ p ∈ ps, p) (htk : tkOp T sl m o = some h) (hsub : ∀ x ∈ h, x ∈ rs)
    (hρ0 : ∀ r y, ρ r = some y → ρ0 r = some y) : ∃ v, m' = m ∧ YieldsIf P ops (heldS ρ0 rs) o v a ∧ Rel T B w0 ρ sl' m (a.put o.dst v) W := by
  have hg : o.guard = none := by
    unfold tkOp at htk
    split at htk
    · cases htk
    · assumption
  have hwant : Region.wanted o (yielded ops a.tmps) = true := by simp [Region.wanted, hg]
  unfold opA at hA
  simp only [hg, guardCh, chOk, Bool.true_and] at hA
  cases hdf : (dstFree o.dst sl && chFreeO o.dst [])
  · simp [hdf] at hA
  simp only [hdf, cond_true] at hA
  rw [Bool.and_eq_true] at hdf
  split at hA
  · rename_i ar har
    split at hA
    · rename_i sl1 hput
      simp only [Option.some.injEq, Prod.mk.injEq] at hA
      obtain ⟨rfl, rfl, rfl⟩ := hA
      have hpre : ∀ p ∈ ar.pre, p := by
        have : ∀ (l : List Prop), (∀ p ∈ chImps sl [] l, p) → ∀ p ∈ l, p := by
          intro l
          induction l with
          | nil => intro _ p hp; cases hp
          | cons x r ih =>
            intro h p hp
            simp only [chImps, chImp] at h
            rcases List.mem_cons.1 hp with rfl | hp
            · exact h _ (by simp)
            · exact ih (fun q hq => h q (by simp [hq])) p hp
        exact (sure_den (this _ hp)).1
      have hsu := (sure_den (T := T) (dst := o.dst) (v := ar.sv) (ps := ar.pre) (by
        have : ∀ (l : List Prop), (∀ p ∈ chImps sl [] l, p) → ∀ p ∈ l, p := by
          intro l
          induction l with
          | nil => intro _ p hp; cases hp
          | cons x r ih =>
            intro h p hp
            simp only [chImps, chImp] at h
            rcases List.mem_cons.1 hp with rfl | hp
            · exact h _ (by simp)
            · exact ih (fun q hq => h q (by simp [hq])) p hp
        exact this _ hp)).2
      have hs : OpsOk ρ sl a o.op.operands.toList := fun t s _ hn hsat => by rw [nth_eq] at hn; exact (hr.fr.ok t s hn).1 hsat
      have hc : sat a [] := fun q w hq => by cases hq
      have fin : ∀ {v : Value}, ar.new = [] → Den ρ ar.sv v → (∀ w, heldS ρ0 rs w → (execOp a.eval o).run P w = .ok (.value v) w) → ∃ v, app m ar.new = m ∧ YieldsIf P ops (heldS ρ0 rs) o v a ∧ Rel T B w0 ρ sl1 m (a.put o.dst v) W := fun {v} hn hd hy =>
        ⟨v, by rw [hn]; rfl, .inl ⟨hwant, hy⟩, hr.fr.put (fun _ _ h => h) hput hdf.1 (fun d _ => by simp) (.inl ⟨hc, hsu _ _ hd⟩), hr.mr, hr.gl, by rw [put_defers]; exact hr.df⟩
      unfold tkOp at htk
      simp only [hg] at htk
      split at htk
      · rename_i x ho
        rw [ho] at har hs
        simp only [stepA] at har
        obtain ⟨sv, hsv, rfl⟩ := optA_some har
        exact fin rfl (useOp_den hr.gl hsv (hs.sub (by simp [Op.operands])) hc) (fun w _ => by simp [execOp, ho])
      · rename_i t x y ho
        rw [ho] at har hs
        obtain ⟨v, h1, h2, h3⟩ := idxA (P := P) hT ho hr.gl (hs.sub (by simp [Op.operands])) hc har hpre
        exact fin h3 h2 (fun w _ => h1 w)
      · rename_i t x k ho
        rw [ho] at har hs
        obtain ⟨v, h1, h2, h3⟩ := fldA (P := P) hT ho hr.gl (hs.sub (by simp [Op.operands])) hc har
        exact fin h3 h2 (fun w _ => h1 w)
      · rename_i t x ho
        split at htk
        · rename_i ti r off hti hx
          split at htk
          · rename_i cs hcs
            split at htk
            · rename_i k n hn
              cases hkk : (Nat.beq ti.kind 1 || Nat.beq ti.kind 2)
              · rw [hkk] at htk
                cases htk
                rw [ho] at har hs
                obtain ⟨b, c, hρ, ex⟩ := (useOp_den hr.gl hx (hs.sub (by simp [Op.operands])) hc).ptr_inv
                simp only [stepA, hti, hx, hcs, loadAt, hkk, cond_false, hn] at har
                cases har
                obtain ⟨g, ty, vs, c', e1, _, e3, e4⟩ := hr.mr.blk r _ (nthM hcs) (by rw [hρ]; simp)
                rw [hρ] at e1
                simp only [Option.some.injEq, Prod.mk.injEq] at e1
                obtain ⟨rfl, _⟩ := e1
                have hagg : ∀ w, (isAgg t).run P w = .ok false w := fun w => by rw [tiChk_agg (hT.types t ti hti) w, hkk]
                refine fin (v := .int k n) rfl (.i _ _) (fun w hw => ?_)
                have hcell := hw _ (hsub _ (List.mem_singleton.2 rfl)) g c (hρ0 _ _ hρ)
                have e0 : (Addr.add ⟨g, 0, none⟩ off) = ⟨g, off, none⟩ := by rw [add_lit']; simp
                have hld : (loadVar t ⟨g, off, none⟩).run P w = .ok (.int k n) w := by
                  simp only [loadVar, Sem.run_bind, hagg, Result.andThen_ok, Bool.false_eq_true, if_false]
                  rw [run_load, hcell]
                simp only [execOp, ho, ex, e0, Instr.loadAt, Instr.sureAddr, Sem.run_bind, Sem.run_pure, Result.andThen_ok, hld]
              · rw [hkk] at htk; cases htk
            · cases htk
          · cases htk
        · cases htk
      · cases htk
    · cases hA
  · cases hA
section pinned
variable (f : Nat → Option Addr × Nat) (rs : Held)
theorem useOp_p (sl : List Slot) (c : List (Nat × Bool)) (x : Operand) : useOp (T.pinned f rs) sl c x = useOp T sl c x := rfl
theorem useAll_p (sl : List Slot) (c : List (Nat × Bool)) (xs : List Operand) : useAll (T.pinned f rs) sl c xs = useAll T sl c xs := by
  induction xs with
  | nil => rfl
  | cons x r ih => simp only [useAll, useOp_p, ih]
theorem useParts_p (sl : List Slot) (c : List (Nat × Bool)) (xs : List (Nat × Operand)) : useParts (T.pinned f rs) sl c xs = useParts T sl c xs := by
  induction xs with
  | nil => rfl
  | cons x r ih => obtain ⟨k, x⟩ := x; simp only [useParts, useOp_p, ih]
theorem useOpt_p (sl : List Slot) (c : List (Nat × Bool)) (x : Option Operand) : useOpt (T.pinned f rs) sl c x = useOpt T sl c x := by cases x <;> rfl
theorem types_p : (T.pinned f rs).types = T.types := rfl
theorem calls_p : (T.pinned f rs).calls = T.calls := rfl
theorem callsB_p : (T.pinned f rs).callsB = T.callsB := rfl
theorem mapKinds_p (t : Nat) : mapKinds (T.pinned f rs) t = mapKinds T t := rfl
theorem mapPair_p (t : Nat) : mapPair (T.pinned f rs) t = mapPair T t := rfl
theorem bin_p (t : Nat) (op : BinOp) (x y : SV) : bin (T.pinned f rs) t op x y = bin T t op x y := rfl
theorem isSlice_p (ts : List Nat) : isSlice (T.pinned f rs) ts = isSlice T ts := rfl
theorem stepBuiltin_p (b : Builtin) (ts : List Nat) (vs : List SV) : stepBuiltin (T.pinned f rs) b ts vs = stepBuiltin T b ts vs := by
  unfold stepBuiltin
  simp only [isSlice_p]
theorem calleeOf_p (sl : List Slot) (c : List (Nat × Bool)) (x : Callee) : calleeOf (T.pinned f rs) sl c x = calleeOf T sl c x := by
  unfold calleeOf
  simp only [useOp_p]
theorem rowLit_p (sl : List Slot) (m : List MBlk) (c : List (Nat × Bool)) (t len : Nat) (ps : Array (Nat × Operand)) : rowLit (T.pinned f rs) sl m c t len ps = rowLit T sl m c t len ps := by
  unfold rowLit
  simp only [useParts_p, types_p]
  rfl
theorem subNew_p (sl : List Slot) (m : List MBlk) (c : List (Nat × Bool)) (t : Nat) (x : Operand) (lo hi : Option Operand) : subNew (T.pinned f rs) sl m c t x lo hi = subNew T sl m c t x lo hi := by
  unfold subNew
  simp only [useOp_p, useOpt_p, types_p]
  rfl
theorem settle_p (sl : List Slot) (m : List MBlk) (op : Op) : settle (T.pinned f rs) sl m op = settle T sl m op := by
  unfold settle
  simp only [useOp_p]
theorem stepA_p (sl : List Slot) (m : List MBlk) (c : List (Nat × Bool)) (t : Nat) (op : Op) : stepA (T.pinned f rs) sl m c t op = stepA T sl m c t op := by
  unfold stepA
  simp only [useOp_p, useAll_p, useParts_p, useOpt_p, types_p, calls_p, mapKinds_p, mapPair_p, bin_p, stepBuiltin_p, calleeOf_p, rowLit_p, subNew_p]
theorem mapUpd_p (sl : List Slot) (m : List MBlk) (c : List (Nat × Bool)) (t : Nat) (x y z : Operand) : mapUpd (T.pinned f rs) sl m c t x y z = mapUpd T sl m c t x y z := by
  unfold mapUpd
  simp only [useOp_p, mapKinds_p, mapPair_p]
theorem stepB_p (sl : List Slot) (m : List MBlk) (c : List (Nat × Bool)) (op : Op) : stepB (T.pinned f rs) sl m c op = stepB T sl m c op := by
  unfold stepB
  simp only [useOp_p, useAll_p, useParts_p, useOpt_p, types_p, callsB_p, mapKinds_p, mapPair_p, calleeOf_p, mapUpd_p]
end pinned
theorem sureV_p (f : Nat → Option Addr × Nat) (rs : Held) (d : Option Nat) (v : SV) : sureV (T.pinned f rs) d v = sureV T d v := rfl
theorem sureP_p (f : Nat → Option Addr × Nat) (rs : Held) (d : Option Nat) (v : SV) (ps : List Prop) : sureP (T.pinned f rs) d v ps = sureP T d v ps := rfl
theorem opA_pinned (f : Nat → Option Addr × Nat) (rs : Held) (ops : List Oper) (sl : List Slot) (m : List MBlk) (o : Oper) : opA (T.pinned f rs) ops sl m o = opA T ops sl m o := by
  unfold opA
  simp only [stepA_p, sureV_p, sureP_p]
theorem prot_pinned (f g : Nat → Option Addr × Nat) (rs : Held) : prot (T.pinned f rs) = prot (T.pinned g rs) := by
  have h2 : ∀ (ps : List (Nat × (Option Addr × Nat))) (rs : Held), pinIx (rs.map (fun h => (h.1, f h.1)) ++ ps) = pinIx (rs.map (fun h => (h.1, g h.1)) ++ ps) := by
    intro ps rs
    induction rs with
    | nil => rfl
    | cons x r ih => simp only [List.map_cons, List.cons_append, pinIx]; rw [ih]
  have h1 : ∀ (G : List (Nat × Nat)) (p q : List (Nat × (Option Addr × Nat))), pinIx p = pinIx q → protOf G p = protOf G q := by
    intro G
    induction G with
    | nil => intro p q h; exact h
    | cons x G ih => intro p q h; simp only [protOf]; rw [ih _ _ h]
  exact h1 _ _ _ (h2 T.pins rs)
theorem opB_pinned (f g : Nat → Option Addr × Nat) (rs : Held) (ops : List Oper) (sl : List Slot) (m : List MBlk) (o : Oper) : opB (T.pinned f rs) ops sl m o = opB (T.pinned g rs) ops sl m o := by
  have e : ∀ h, stepC (T.pinned h rs) sl m o.op = stepC T sl m o.op := fun h => by
    unfold stepC
    simp only [stepB_p, settle_p]
  unfold opB
  rw [e f, e g, prot_pinned f g rs]
theorem seqH_pinned (f g : Nat → Option Addr × Nat) (rs rs2 : Held) (ops : List Oper) : ∀ (l : List Oper) (s : St), seqH (T.pinned f rs) ops rs2 l s = seqH (T.pinned g rs) ops rs2 l s := by
  intro l
  induction l with
  | nil => intro s; rfl
  | cons o l ih =>
    intro s
    simp only [seqH, opA_pinned]
    rw [opB_pinned f g rs]
    split
    · rw [ih]
    · split
      · cases notIn rs2 _
        · rfl
        · simp only [cond_true]; rw [ih]
      · rfl
theorem tkGo_get {ops : List Oper} : ∀ {tail : List Oper} {S : Nat → List Slot} {M : Nat → List MBlk} {n : Nat}, (∀ i, i < n → ∃ o p, tail[i]? = some o ∧ opA T ops (S i) (M i) o = some (p, S (i + 1), M (i + 1))) →
    ∀ i h, (tkGo T ops tail (S 0) (M 0))[i]? = some h → i < n → ∃ o, tail[i]? = some o ∧ tkOp T (S i) (M i) o = some h := by
  intro tail
  induction tail with
  | nil => intro S M n _ i h hi; simp [tkGo] at hi
  | cons o rest ih =>
    intro S M n hst i h hi hin
    simp only [tkGo] at hi
    split at hi
    · rename_i h0 ps sl' m' htk hA
      cases i with
      | zero =>
        simp at hi
        subst hi
        exact ⟨o, rfl, htk⟩
      | succ i =>
        obtain ⟨o', p', ho', hA'⟩ := hst 0 (by omega)
        simp at ho'
        subst ho'
        rw [hA] at hA'
        simp only [Option.some.injEq, Prod.mk.injEq] at hA'
        obtain ⟨_, e1, e2⟩ := hA'
        have := ih (S := fun i => S (i + 1)) (M := fun i => M (i + 1)) (n := n - 1) (fun j hj => by
          obtain ⟨oj, pj, h1, h2⟩ := hst (j + 1) (by omega)
          exact ⟨oj, pj, by simpa using h1, h2⟩) i h (by rw [← e1, ← e2]; simpa using hi) (by omega)
        simpa using this
    · simp at hi
theorem flatH_mem {tk : List Held} {x : Nat × Nat × IntKind × Int} : x ∈ flatH tk ↔ ∃ (i : Nat) (h : Held), tk[i]? = some h ∧ x ∈ h := by
  induction tk with
  | nil => simp [flatH]
  | cons h r ih =>
    simp only [flatH, List.mem_append, ih]
    constructor
    · rintro (hx | ⟨i, h', h1, h2⟩)
      · exact ⟨0, h, rfl, hx⟩
      · exact ⟨i + 1, h', by simpa using h1, h2⟩
    · rintro ⟨i, h', h1, h2⟩
      cases i with
      | zero => simp at h1; subst h1; exact .inl h2
      | succ i => exact .inr ⟨i, h', by simpa using h1, h2⟩
/-- What is held by one operation. -/
theorem tkOp_in {sl : List Slot} {m : List MBlk} {o : Oper} {h : Held} (htk : tkOp T sl m o = some h) : HeldIn h m := by
  unfold tkOp at htk
  split at htk
  · cases htk
  · split at htk
    · cases htk; intro x hx; cases hx
    · cases htk; intro x hx; cases hx
    · cases htk; intro x hx; cases hx
    · split at htk
      · split at htk
        · rename_i cs hcs
          split at htk
          · rename_i k n hn
            generalize (Nat.beq _ 1 || Nat.beq _ 2) = bb at htk
            cases bb
            · simp only [cond_false, Option.some.injEq] at htk
              subst htk
              intro x hx
              obtain rfl := List.mem_singleton.1 hx
              exact ⟨cs, nthM hcs, nthM hn⟩
            · cases htk
          · cases htk
        · cases htk
      · cases htk
    · cases htk
theorem firstL_size (n : Nat) : ∀ i, (firstL n i).size = n := by
  intro i
  induction i with
  | zero => simp [firstL]
  | succ i ih => simp [firstL, ih]
theorem firstL_get {n : Nat} : ∀ {i j : Nat}, j < n → ((firstL n i).getD j false = true ↔ j < i) := by
  intro i
  induction i with
  | zero => intro j hj; simp [firstL, hj]
  | succ i ih =>
    intro j hj
    simp only [firstL]
    by_cases e : j = i
    · subst e
      have : j < (firstL n j).size := by rw [firstL_size]; exact hj
      simp [this]
    · rw [getD_set_ne false (Ne.symm e), ih hj]
      omega
theorem firstL_count {n : Nat} : ∀ {i : Nat}, i ≤ n → (firstL n i).toList.count true = i := by
  intro i
  induction i with
  | zero => intro _; simp [firstL, List.count_replicate]
  | succ i ih =>
    intro hi
    simp only [firstL]
    rw [cnt_set (by rw [firstL_size]; omega) (Bool.eq_false_iff.2 fun h => by have := (firstL_get (by omega)).1 h; omega), ih (by omega)]
theorem tkFree_get {ops : Array Oper} : ∀ {k : Nat}, tkFree ops k = true → ∀ i, i < k → Region.free .any ops (firstL ops.size i) i = true ∧ (Region.ready .any ops (firstL ops.size i)).contains i = true := by
  intro k
  induction k with
  | zero => intro _ i hi; omega
  | succ k ih =>
    intro h i hi
    simp only [tkFree, Bool.and_eq_true] at h
    by_cases e : i = k
    · subst e; exact h.1
    · exact ih h.2 i (by omega)
/-- A region that draws its order, where some operations are taken first. -/
theorem region_held_any {ops : Array Oper} {Q : Exit → Act → World → Prop} {s s' : St} {ps : List Prop} {ρ : Env} {a : Act} {W : World} (hT : TabOk P T) (h : drawHeld T ops s = some (ps, s')) (hp : ∀ p ∈ ps, p) (hr : Rel T B w0 ρ s.slots s.mem a W)
    (hQ : ∀ ρ a W, Rel T B w0 ρ s'.slots s'.mem a W → Q .normal a W) : wpAny P .any ops (fun e a w => e = .normal ∧ Q .normal a w) ops.size (Array.replicate ops.size false) a { W with drawn := W.drawn + 1 } := by
  unfold drawHeld at h
  generalize hA : seqA T ops.toList ops.toList s.slots s.mem = res at h
  obtain ⟨ps1, sl1, m1, ls, r⟩ := res
  simp only at h
  generalize htk : tkGo T ops.toList ops.toList s.slots s.mem = tk at h
  cases hc : (allClean s.slots && edgesOk 0 ops.toList && dstsOk ops.toList && allLooks ops.toList (ancsGo ops.toList []) 0 ls (ancsGo ops.toList []) && tailMask tk.length (lateOf ops ls.length) ls.length (dropN ls.length (ancsGo ops.toList [])) && Nat.ble tk.length ls.length && Region.noSelect ops && tkFree ops tk.length)
  · simp [hc] at h
  · rw [hc] at h
    simp only [cond_true] at h
    simp only [Bool.and_eq_true] at hc
    obtain ⟨⟨⟨⟨⟨⟨⟨hcln, hed⟩, hds⟩, hlk⟩, htl⟩, hkl⟩, hns⟩, hfree⟩ := hc
    have hkl := Nat.le_of_ble_eq_true hkl
    split at h
    · rename_i qs s1 hB
      simp only [Option.some.injEq, Prod.mk.injEq] at h
      obtain ⟨rfl, rfl⟩ := h
      obtain ⟨S, M, p, h1, h2, h3, h4, h5, h6, h7⟩ := seqA_steps _ _ _ _ _ _ _ _ hA
      have hanl : (ancsGo ops.toList []).length = ops.toList.length := by have := (ancsGo_spec ops.toList []).1; simpa using this
      have hst : ∀ i, i < ls.length → ∃ o, ops.toList[i]? = some o ∧ opA T ops.toList (S i) (M i) o = some (p i, S (i + 1), M (i + 1)) ∧ ls[i]? = some (looksOf (S i) ops.toList o) := fun i hi => by
        obtain ⟨o, k1, k2, k3, _⟩ := h7 i hi
        exact ⟨o, k1, k2, k3⟩
      have hps : ∀ i, i < ls.length → ∀ q ∈ p i, q := fun i hi q hq => by
        obtain ⟨o, _, _, _, k4⟩ := h7 i hi
        exact hp q (List.mem_append.2 (.inl (k4 q hq)))
      have hpre : Pre ops.toList S ls.length := ⟨fun i hi => by
          obtain ⟨o, k1, k2, _⟩ := hst i hi
          obtain ⟨s, hs⟩ := (opA_shape k2).2.1
          exact ⟨o, s, k1, hs⟩, fun i hi o ho => by
          obtain ⟨o', k1, k2, _⟩ := hst i hi
          rw [ho] at k1
          simp only [Option.some.injEq] at k1
          subst k1
          exact (opA_shape k2).2.2, hds⟩
      have hBel : Below W.heap.size W { W with drawn := W.drawn + 1 } := ⟨rfl, rfl, rfl, Nat.le_refl _, fun _ _ => rfl⟩
      have hMn : ∀ j, j < ls.length → ∃ new, M (j + 1) = M j ++ new := fun j hj => by
        obtain ⟨oj, _, hAj, _⟩ := hst j hj
        exact (opA_shape hAj).1
      obtain ⟨tl, htl0⟩ := M_mono hMn 0 ls.length (by omega) (Nat.le_refl _)
      have hge : ∀ j, j ≤ ls.length → (M 0).length ≤ (M j).length := fun j hj => by
        obtain ⟨n1, e1⟩ := M_mono hMn 0 j (by omega) hj
        rw [e1]; simp
      have htks : ∀ i hh, tk[i]? = some hh → ∃ o, ops.toList[i]? = some o ∧ tkOp T (S i) (M i) o = some hh := fun i hh hi => by
        have := tkGo_get (T := T) (S := S) (M := M) (n := ls.length) (ops := ops.toList) (tail := ops.toList) (fun j hj => by obtain ⟨o, k1, k2, _⟩ := hst j hj; exact ⟨o, p j, k1, k2⟩) i hh (by rw [h1, h2, htk]; exact hi) (by have := (List.getElem?_eq_some_iff.1 hi).1; omega)
        exact this
      let rs := flatH tk
      let W1 : World := { W with drawn := W.drawn + 1 }
      have hr1 : Rel T B w0 ρ (S 0) (M 0) a W1 := by
        have := hr.mr.grow (new := []) hBel (fun _ _ => rfl) (.refl _ _ _) (.nil _ _ _ _)
        rw [List.append_nil] at this
        rw [h1, h2]
        exact ⟨hr.fr, this, hr.gl, hr.df⟩
      -- the operations that are taken first
      have walk : ∀ (j : Nat), j ≤ tk.length → M j = M 0 ∧ (∀ i hh, i < j → tk[i]? = some hh → HeldIn hh (M 0) ∧ ∀ x ∈ hh, ρ x.1 ≠ none) ∧
          ∃ aj, Rel T B w0 ρ (S j) (M 0) aj W1 ∧ ∀ (Qn : Exit → Act → World → Prop) (fuel : Nat), (∀ c a w, ¬ Qn (.panic c) a w) → (∀ x ∈ rs, ρ x.1 ≠ none) → HeldIn rs (M 0) → wpAnyH P .any ops Qn (heldS ρ rs) fuel (firstL ops.size j) aj W1 → wpAnyH P .any ops Qn (heldS ρ rs) (fuel + j) (firstL ops.size 0) a W1 := by
        intro j
        induction j with
        | zero => intro _; exact ⟨rfl, fun i hh hi => absurd hi (Nat.not_lt_zero _), a, hr1, fun Qn fuel _ _ _ h => h⟩
        | succ j ih =>
          intro hj
          obtain ⟨e1, e2, aj, e3, e4⟩ := ih (by omega)
          obtain ⟨o, ho, hAo, _⟩ := hst j (by omega)
          have htj : tk[j]? = some tk[j] := List.getElem?_eq_getElem (by omega)
          obtain ⟨o', ho', htko⟩ := htks j _ htj
          rw [ho] at ho'
          simp only [Option.some.injEq] at ho'
          subst ho'
          rw [e1] at hAo htko
          have hρn : ∀ x ∈ tk[j], ρ x.1 ≠ none := by
            intro x hx
            have htko' := htko
            unfold tkOp at htko'
            split at htko'
            · cases htko'
            · split at htko'
              · simp only [Option.some.injEq] at htko'; rw [← htko'] at hx; cases hx
              · simp only [Option.some.injEq] at htko'; rw [← htko'] at hx; cases hx
              · simp only [Option.some.injEq] at htko'; rw [← htko'] at hx; cases hx
              · split at htko'
                · rename_i ti r off hti hux
                  obtain ⟨b, c, hρ, _⟩ := (useOp_den e3.gl hux (fun t st _ hn hsat => by rw [nth_eq] at hn; exact (e3.fr.ok t st hn).1 hsat) (fun q w hq => by cases hq)).ptr_inv
                  split at htko'
                  · split at htko'
                    · cases hb : (Nat.beq ti.kind 1 || Nat.beq ti.kind 2) <;> rw [hb] at htko' <;> simp only [cond_true, cond_false, reduceCtorEq, Option.some.injEq] at htko'
                      rw [← htko'] at hx
                      obtain rfl := List.mem_singleton.1 hx
                      rw [hρ]; simp
                    · cases htko'
                  · cases htko'
                · cases htko'
              · cases htko'
          have hM : M (j + 1) = M 0 ∧ ∃ a2, Rel T B w0 ρ (S (j + 1)) (M 0) a2 W1 ∧ ∀ (Qn : Exit → Act → World → Prop) (fuel : Nat), (∀ c a w, ¬ Qn (.panic c) a w) → (∀ x ∈ rs, ρ x.1 ≠ none) → HeldIn rs (M 0) → wpAnyH P .any ops Qn (heldS ρ rs) fuel (firstL ops.size (j + 1)) a2 W1 → wpAnyH P .any ops Qn (heldS ρ rs) (fuel + 1) (firstL ops.size j) aj W1 := by
            obtain ⟨v, g1, g2, g3⟩ := tk_step (rs := rs) (ρ0 := ρ) (h := tk[j]) hT e3 hAo (hps j (by omega)) htko (fun x hx => flatH_mem.2 ⟨j, tk[j], htj, hx⟩) (fun r y hy => hy)
            refine ⟨g1, _, g3, fun Qn fuel hQn hρs hin hw => ?_⟩
            obtain ⟨f1, f2⟩ := tkFree_get hfree j (by omega)
            exact wpAnyH_take (oi := o) (by simpa using ho) hns f1 f2 (fun c a w hq => absurd hq (hQn _ _ _)) g2 (heldS_of e3.mr hin (fun _ _ _ hy => hy)) hw
          obtain ⟨m1', a2, m2, m3⟩ := hM
          refine ⟨m1', fun i hh hi hih => ?_, a2, m2, fun Qn fuel hQn hρs hin hw => ?_⟩
          · by_cases e : i = j
            · subst e
              rw [htj] at hih
              simp only [Option.some.injEq] at hih
              subst hih
              exact ⟨tkOp_in htko, hρn⟩
            · exact e2 i hh (by omega) hih
          · have := e4 Qn (fuel + 1) hQn hρs hin (m3 Qn fuel hQn hρs hin hw)
            rw [show fuel + (j + 1) = fuel + 1 + j by omega]
            exact this
      obtain ⟨w1, w2, ak, w3, w4⟩ := walk tk.length (Nat.le_refl _)
      have hin0 : HeldIn rs (M 0) := fun x hx => by
        obtain ⟨i, hh, hi, hxh⟩ := flatH_mem.1 hx
        exact (w2 i hh (List.getElem?_eq_some_iff.1 hi).1 hi).1 x hxh
      have hρs : ∀ x ∈ rs, ρ x.1 ≠ none := fun x hx => by
        obtain ⟨i, hh, hi, hxh⟩ := flatH_mem.1 hx
        exact (w2 i hh (List.getElem?_eq_some_iff.1 hi).1 hi).2 x hxh
      let f : Nat → Option Addr × Nat := fun r => (ρ r).getD (none, 0)
      have hpin : ∀ x ∈ rs, ρ x.1 = some (f x.1) := fun x hx => by
        obtain ⟨y, hy⟩ := Option.ne_none_iff_exists'.1 (hρs x hx)
        simp [f, hy]
      have hT' : TabOk P (T.pinned f rs) := ⟨hT.mixed, hT.types, hT.ints, hT.calls, hT.callsB⟩
      have hG' : GlobOk (T.pinned f rs) ρ := ⟨hr.gl.gl, fun q hq => by
        rcases List.mem_append.1 hq with hq | hq
        · obtain ⟨x, hx, rfl⟩ := List.mem_map.1 hq
          exact hpin x hx
        · exact hr.gl.pin q hq⟩
      have hold : ∀ {ρ' : Env}, GlobOk (T.pinned f rs) ρ' → ∀ x, x ∈ rs → ∀ y, ρ x.1 = some y → ρ' x.1 = some y := fun {ρ'} hg x hx y hy => by
        have h1 := hg.pin (x.1, f x.1) (List.mem_append.2 (.inl (List.mem_map.2 ⟨x, hx, rfl⟩)))
        rw [hpin x hx] at hy
        rw [← hy]
        exact h1
      let Qn : Exit → Act → World → Prop := fun e a w => e = .normal ∧ Q .normal a w
      refine wpAny_of_held (Q := Qn) (S := heldS ρ rs) _ _ _ _ ?_
      have hsz : ops.size = (ops.size - tk.length) + tk.length := by
        have : ops.toList.length = ops.size := by simp
        omega
      have hfin := w4 Qn (ops.size - tk.length) (fun c a w hq => by cases hq.1) hρs hin0 ?_
      · rw [hsz]
        have e0 : firstL (ops.size - tk.length + tk.length) 0 = Array.replicate (ops.size - tk.length + tk.length) false := rfl
        rw [← hsz] at e0 ⊢
        rw [← hsz] at hfin
        exact hfin
      have hopsz : ops.toList.length = ops.size := by simp
      refine phaseAH (p := p) (w0 := w0) (dirty := s.dirty) (T := T.pinned f rs) (rs := rs) (SS := heldS ρ rs) (s' := s1) (ps := qs) (S := S) (M := M) (Q := Qn) hT' (fun sl m ρ' a' W' hr' hh => heldS_of hr'.mr hh (hold hr'.gl)) (fun ρ' m W' hm' hg' hh => heldS_of hm' hh (hold hg')) (by rw [htl0]; exact hin0.app tl) hkl hns (fun c a w hq => by cases hq.1) rfl hed hlk (by rw [h1]; exact hcln) hpre (fun i hi => by obtain ⟨o, k1, k2, k3⟩ := hst i hi; exact ⟨o, k1, by rw [opA_pinned]; exact k2, k3⟩) h6 hps htl ?_ (fun q hq => hp q (List.mem_append.2 (.inr hq))) (fun ρ' a' W' hr' => ⟨rfl, hQ ρ' a' W' ⟨hr'.fr, hr'.mr, ⟨hr'.gl.gl, fun q hq => hr'.gl.pin q (List.mem_append.2 (.inr hq))⟩, hr'.df⟩⟩) _ _ _ _ ⟨by rw [firstL_size, hopsz], fun j aj haj hlj k hk => ?_, fun j hjn hjl => ?_, ρ, ?_, fun d sd hcd => ?_, ?_, hG', w3.df, fun i hi _ r hr1 _ => ?_⟩ (fun j hj => (firstL_get (by omega)).2 hj) (by rw [firstL_count (by omega)]; omega)
      · rw [seqH_pinned f (fun _ => (none, 0)) rs, h3, h4, ← h5]; exact hB
      · have hjl : j < ops.size := by have := (List.getElem?_eq_some_iff.1 haj).1; omega
        rw [listed_two (by rw [firstL_size]; exact hjl)] at hlj
        have hj := (firstL_get hjl).1 hlj
        have hkj := anc_lt rfl hed j aj haj k hk
        exact (firstL_get (by omega)).2 (by omega)
      · rw [listed_two (by rw [firstL_size]; omega)]
        exact Bool.eq_false_iff.2 fun h => by have := (firstL_get (by omega)).1 h; omega
      · rw [← w3.fr.len, hpre.len _ hkl]
      · refine w3.fr.ok d sd ?_
        rcases hcd with ⟨j, oj, hjn, hlj, hoj, hdj, hsj⟩ | ⟨hno, hs0⟩
        · have hj := (firstL_get (by omega)).1 hlj
          rw [← hsj]
          exact hpre.keep (j + 1) tk.length (by omega) hkl fun k ok hk hki hok hdk => by
            have := dstsOk_get hpre.dsts hoj hok hdj hdk
            omega
        · rw [← hs0]
          exact hpre.keep 0 tk.length (by omega) hkl fun k ok _ hki hok hdk => hno k ok (by omega) ((firstL_get (by omega)).2 hki) hok hdk
      · rw [htl0]
        exact w3.mr.pre tl
      · refine Classical.byContradiction fun hne => ?_
        have := w3.mr.dom r hne
        have := hge i (by omega)
        omega
    · cases h
theorem region_held {ops : Array Oper} {id : Nat} {Q : Exit → Act → World → Prop} {s s' : St} {ps : List Prop} {ρ : Env} {a : Act} {W : World} (hT : TabOk P T) (h : drawHeld T ops s = some (ps, s')) (hp : ∀ p ∈ ps, p) (hr : Rel T B w0 ρ s.slots s.mem a W)
    (hQ : ∀ ρ a W, Rel T B w0 ρ s'.slots s'.mem a W → Q .normal a W) : (Code.region id ops true).wp P Q a W :=
  Code.wp_mono (Q := fun e a w => e = .normal ∧ Q .normal a w) (fun e a w hq => by obtain ⟨rfl, hq⟩ := hq; exact hq) (wp_region_any hT.mixed (region_held_any hT h hp hr hQ))
end
end Go.Proofs.Ytiokmglajigngaa.Sx
