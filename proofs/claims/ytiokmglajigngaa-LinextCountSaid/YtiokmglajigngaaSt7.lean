/-
  A symbolic executor for the model's code: a region in the order of its text.
-/
import Derived.Test.YtiokmglajigngaaSt6
namespace Go.Proofs.Ytiokmglajigngaa.Sx
open Go Go.RowKit

section
variable {P : Program} {T : Tab} {ρ σ : Env} {sl : List Slot} {a : Act} {c : List (Nat × Bool)} {B : Lim} {W w0 : World} {m : List MBlk} {o : Oper}

structure FR (ρ : Env) (sl : List Slot) (a : Act) : Prop where
  len : sl.length = a.tmps.size
  ok : ∀ d s, sl[d]? = some s → SlotOK ρ s a d

structure Rel (T : Tab) (B : Lim) (w0 : World) (ρ : Env) (sl : List Slot) (m : List MBlk) (a : Act) (W : World) : Prop where
  fr : FR ρ sl a
  mr : MR B w0 W ρ m
  gl : GlobOk T ρ
  df : a.defers = []

theorem put_size (dst : Option Nat) (v : Value) : (a.put dst v).tmps.size = a.tmps.size := by
  unfold Act.put; cases dst <;> simp
theorem put_defers (dst : Option Nat) (v : Value) : (a.put dst v).defers = a.defers := by
  unfold Act.put; cases dst <;> rfl
theorem put_same {d : Nat} {v : Value} (h : d < a.tmps.size) : (a.put (some d) v).tmps.getD d undef = v := by
  simp [Act.put, h]
theorem put_other {dst : Option Nat} {d : Nat} {v : Value} (h : dst ≠ some d) : (a.put dst v).tmps.getD d undef = a.tmps.getD d undef := by
  cases dst with
  | none => rfl
  | some e =>
    have : e ≠ d := fun e' => h (by rw [e'])
    simp [Act.put, Array.getElem?_setIfInBounds_ne this]

theorem sat_put {dst : Option Nat} {v : Value} (h : ∀ d, dst = some d → d ∉ c.map (·.1)) : sat (a.put dst v) c ↔ sat a c := by
  have key : ∀ q w, (q, w) ∈ c → (a.put dst v).tmps.getD q undef = a.tmps.getD q undef := fun q w hq => put_other (fun e => h q e (List.mem_map.2 ⟨_, hq, rfl⟩))
  exact ⟨fun hs q w hq => by rw [← key q w hq]; exact hs q w hq, fun hs q w hq => by rw [key q w hq]; exact hs q w hq⟩

theorem dstFree_get {dst : Option Nat} (h : dstFree dst sl = true) {e : Nat} {s : Slot} (hs : sl[e]? = some s) : ∀ d, dst = some d → d ∉ s.ch.map (·.1) := by
  induction sl generalizing e with
  | nil => simp at hs
  | cons x r ih =>
    simp only [dstFree, Bool.and_eq_true] at h
    cases e with
    | zero =>
      simp at hs
      subst hs
      intro d hd
      subst hd
      exact chFree_iff.1 h.1
    | succ e => exact ih h.2 (by simpa using hs)

theorem SlotOK.mono {s : Slot} {d : Nat} (h : SlotOK ρ s a d) (hle : ∀ r y, ρ r = some y → σ r = some y) : SlotOK σ s a d := ⟨fun hs => (h.1 hs).mono hle, h.2⟩

/-- A slot that is not written. -/
theorem SlotOK.put {s : Slot} {d : Nat} {dst : Option Nat} {v : Value} (h : SlotOK ρ s a d) (hd : dst ≠ some d) (hf : ∀ e, dst = some e → e ∉ s.ch.map (·.1)) : SlotOK ρ s (a.put dst v) d := by
  unfold SlotOK
  rw [sat_put hf, put_other hd]
  exact h

/-- The slot that is written. -/
theorem SlotOK.new {sv : SV} {d : Nat} {v : Value} (hlt : d < a.tmps.size) (hf : d ∉ c.map (·.1)) (h : (sat a c ∧ Den σ sv v) ∨ ((¬ sat a c ∨ (c = [] ∧ sv = .dead)) ∧ v = undef)) : SlotOK σ ⟨c, sv⟩ (a.put (some d) v) d := by
  unfold SlotOK
  simp only
  rw [sat_put (fun e he => by simp only [Option.some.injEq] at he; subst he; exact hf), put_same hlt]
  rcases h with ⟨h1, h2⟩ | ⟨h1, rfl⟩
  · exact ⟨fun _ => h2, fun h => absurd h1 h⟩
  · rcases h1 with h1 | ⟨rfl, rfl⟩
    · exact ⟨fun h => absurd h h1, fun _ => rfl⟩
    · exact ⟨fun _ => .dead _, fun _ => rfl⟩

theorem FR.put {sl' : List Slot} {dst : Option Nat} {sv : SV} {v : Value} (h : FR ρ sl a) (hle : ∀ r y, ρ r = some y → σ r = some y) (hp : putS sl dst ⟨c, sv⟩ = some sl') (hf : dstFree dst sl = true) (hc : ∀ d, dst = some d → d ∉ c.map (·.1))
    (hv : (sat a c ∧ Den σ sv v) ∨ ((¬ sat a c ∨ (c = [] ∧ sv = .dead)) ∧ v = undef)) : FR σ sl' (a.put dst v) := by
  obtain ⟨h1, h2, h3⟩ := putS_some hp
  refine ⟨by rw [h1, put_size]; exact h.len, fun d s hs => ?_⟩
  rw [h3 d] at hs
  by_cases e : dst = some d
  · rw [if_pos e] at hs
    simp only [Option.some.injEq] at hs
    subst hs
    subst e
    exact SlotOK.new (by rw [← h.len]; exact h2 d rfl) (hc d rfl) hv
  · rw [if_neg e] at hs
    exact ((h.ok d s hs).mono hle).put e (dstFree_get hf hs)

theorem get_clean (sl : List Slot) (d : Nat) : (clean sl)[d]? = (sl[d]?).map cleanSlot := by
  induction sl generalizing d with
  | nil => simp [clean]
  | cons s r ih => cases d <;> simp [clean, ih]
theorem length_clean (sl : List Slot) : (clean sl).length = sl.length := by
  induction sl with
  | nil => rfl
  | cons s r ih => simp [clean, ih]
theorem FR.clean (h : FR ρ sl a) : FR ρ (Sx.clean sl) a := by
  refine ⟨by rw [length_clean]; exact h.len, fun d s hs => ?_⟩
  rw [get_clean, Option.map_eq_some_iff] at hs
  obtain ⟨s0, h0, rfl⟩ := hs
  have := h.ok d s0 h0
  unfold cleanSlot
  split
  · exact this
  · exact ⟨fun _ => .dead _, fun hn => absurd (fun q w hq => by cases hq) hn⟩

theorem get_killSlots (l : List Nat) (sl : List Slot) (d : Nat) : (killSlots l sl)[d]? = (sl[d]?).map (fun s => ⟨s.ch, killSV l s.sv⟩) := by
  induction sl generalizing d with
  | nil => simp [killSlots]
  | cons s r ih => cases d <;> simp [killSlots, ih]
theorem length_killSlots (l : List Nat) (sl : List Slot) : (killSlots l sl).length = sl.length := by
  induction sl with
  | nil => rfl
  | cons s r ih => simp [killSlots, ih]
theorem FR.kill {l : List Nat} (h : FR ρ sl a) (hle : ∀ r y, r ∉ l → ρ r = some y → σ r = some y) : FR σ (killSlots l sl) a := by
  refine ⟨by rw [length_killSlots]; exact h.len, fun d s hs => ?_⟩
  rw [get_killSlots, Option.map_eq_some_iff] at hs
  obtain ⟨s0, h0, rfl⟩ := hs
  have := h.ok d s0 h0
  exact ⟨fun hsat => (this.1 hsat).kill hle, this.2⟩
theorem dstFree_kill {l : List Nat} {dst : Option Nat} (h : dstFree dst sl = true) : dstFree dst (killSlots l sl) = true := by
  induction sl with
  | nil => rfl
  | cons s r ih =>
    simp only [killSlots, dstFree, Bool.and_eq_true] at h ⊢
    exact ⟨h.1, ih h.2⟩

theorem GlobOk.mono (h : GlobOk T ρ) (hle : ∀ r y, ρ r = some y → σ r = some y) : GlobOk T σ := ⟨fun g r hr => by
  obtain ⟨c, hc⟩ := h.gl g r hr
  exact ⟨c, hle _ _ hc⟩, fun p hp => hle _ _ (h.pin p hp)⟩
theorem globFree_get {l : List Nat} {g : List Nat} (h : globFree l g = true) {x : Nat} (hx : x ∈ g) : x ∉ l := by
  induction g with
  | nil => cases hx
  | cons y r ih =>
    simp only [globFree, Bool.and_eq_true, Bool.not_eq_true'] at h
    rcases List.mem_cons.1 hx with rfl | hx
    · intro hm; rw [memN_iff.2 hm] at h; exact absurd h.1 (by simp)
    · exact ih h.2 hx
theorem GlobOk.kill {l : List Nat} (h : GlobOk T ρ) (hf : globFree l (prot T) = true) (hle : ∀ r y, r ∉ l → ρ r = some y → σ r = some y) : GlobOk T σ := ⟨fun g r hr => by
  obtain ⟨c, hc⟩ := h.gl g r hr
  exact ⟨c, hle _ _ (globFree_get hf (glob_prot hr)) hc⟩, fun p hp => hle _ _ (globFree_get hf (pin_prot hp)) (h.pin p hp)⟩

/-- An operation of the first kind, in its turn. -/
theorem opA_rel {ops : Array Oper} {Q : Exit → Act → World → Prop} {K : Act → World → Prop} {ps : List Prop} {sl' : List Slot} {m' : List MBlk} (hT : TabOk P T) (hr : Rel T B w0 ρ sl m a W)
    (h : opA T ops.toList sl m o = some (ps, sl', m')) (hp : ∀ p ∈ ps, p) (hK : ∀ ρ a W, Rel T B w0 ρ sl' m' a W → K a W) :
    if Region.wanted o (yielded ops a.tmps) then o.wp P a W K Q else K (a.put o.dst undef) W := by
  obtain ⟨c, sv, new, rfl, hput, _, hdc, hdf, h1, h2⟩ := opA_spec (P := P) (W := W) hT hr.gl hr.mr.hS hr.mr.blk hr.fr.len (fun t _ s hs => hr.fr.ok t s hs)
    (fun r hr1 _ => Classical.byContradiction fun hne => by have := hr.mr.dom r hne; omega) h hp
  split
  · rename_i hw
    obtain ⟨hsat, hop⟩ := h1 hw
    refine hop.wp fun v W' hv => ?_
    obtain ⟨hb, σ, hσ, hsg, hd, hn⟩ := hv
    have hmr := hr.mr.grow hb hσ hsg hn
    have hle : ∀ r y, ρ r = some y → σ r = some y := fun r y hy => by
      rw [hσ r (.inl (hr.mr.dom r (by rw [hy]; simp)))]; exact hy
    exact hK σ _ _ ⟨hr.fr.put hle hput hdf hdc (.inl ⟨hsat, hd⟩), hmr, hr.gl.mono hle, by rw [put_defers]; exact hr.df⟩
  · rename_i hw
    have hw := Bool.eq_false_iff.2 hw
    have hmr : MR B w0 W ρ (m ++ new) := hr.mr.grow (Below.refl _ _) (fun _ _ => rfl) (.refl _ _ _) ⟨fun k b _ hne => absurd (hr.mr.dom _ hne) (by omega), fun k b a c _ _ hx => absurd (hr.mr.dom _ (by rw [hx]; simp)) (by omega), fun k l b d a c x y _ _ _ _ hx => absurd (hr.mr.dom _ (by rw [hx]; simp)) (by omega)⟩
    exact hK ρ _ _ ⟨hr.fr.put (fun _ _ h => h) hput hdf hdc (.inr ⟨h2 hw, rfl⟩), hmr, hr.gl, by rw [put_defers]; exact hr.df⟩

/-- An operation of the second kind, in its turn. -/
theorem opB_rel {ops : Array Oper} {Q : Exit → Act → World → Prop} {K : Act → World → Prop} {ps : List Prop} {sl' : List Slot} {m' : List MBlk} {ds : List Nat} (hT : TabOk P T) (hr : Rel T B w0 ρ sl m a W)
    (h : opB T ops.toList sl m o = some (ps, sl', m', ds)) (hp : ∀ p ∈ ps, p) (hK : ∀ ρ a W, Rel T B w0 ρ sl' m' a W → K a W) :
    if Region.wanted o (yielded ops a.tmps) then o.wp P a W K Q else K (a.put o.dst undef) W := by
  unfold opB at h
  split at h
  · rename_i hg
    rw [if_pos ((guard_some hr.fr.len (fun _ _ _ d s _ _ _ hsd => hr.fr.ok d s hsd) hg).2 (fun q w hq => by cases hq))]
    cases hdf : dstFree o.dst sl
    · simp [hdf] at h
    · simp only [hdf, cond_true] at h
      split at h
      · rename_i b hb
        cases hgf : globFree b.kill (prot T)
        · simp [hgf] at h
        · simp only [hgf, cond_true] at h
          split at h
          · rename_i sl1 hput
            simp only [Option.some.injEq, Prod.mk.injEq] at h
            obtain ⟨rfl, rfl, rfl, rfl⟩ := h
            have hop := stepC_sound (P := P) (a := a) hT hr.gl hr.mr (fun t s _ hn hsat => by rw [nth_eq] at hn; exact (hr.fr.ok t s hn).1 hsat) hb hp
            refine hop.wp fun v W' hv => ?_
            obtain ⟨σ, hσ, hd, hmr⟩ := hv
            rw [← app_eq] at hmr
            exact hK σ _ _ ⟨(hr.fr.kill hσ).put (fun _ _ h => h) hput (dstFree_kill hdf) (fun d _ => by simp) (.inl ⟨(fun q w hq => by cases hq), hd⟩), hmr, hr.gl.kill hgf hσ, by rw [put_defers]; exact hr.df⟩
          · cases h
      · cases h
  · cases h

theorem conj_iff {ps : List Prop} {p : Prop} : conj ps p ↔ (∀ q ∈ ps, q) ∧ p := by
  induction ps with
  | nil => simp [conj]
  | cons x r ih =>
    simp only [conj, ih]
    constructor
    · rintro ⟨h1, h2, h3⟩
      exact ⟨fun q hq => by rcases List.mem_cons.1 hq with rfl | hq; exact h1; exact h2 q hq, h3⟩
    · rintro ⟨h1, h2⟩
      exact ⟨h1 x (by simp), fun q hq => h1 q (List.mem_cons_of_mem _ hq), h2⟩

/-- A region in the order of its text. -/
theorem seqGo_sound {ops : Array Oper} {Q : Exit → Act → World → Prop} (hT : TabOk P T) : ∀ (l : List Oper) (s s' : St) (ps : List Prop) (ρ : Env) (a : Act) (W : World), seqGo T ops.toList l s = some (ps, s') → (∀ p ∈ ps, p) → Rel T B w0 ρ s.slots s.mem a W →
    (∀ ρ a W, Rel T B w0 ρ s'.slots s'.mem a W → Q .normal a W) → wpList P ops Q l a W := by
  intro l
  induction l with
  | nil =>
    intro s s' ps ρ a W h _ hr hQ
    simp only [seqGo, Option.some.injEq, Prod.mk.injEq] at h
    obtain ⟨rfl, rfl⟩ := h
    exact hQ ρ a W ⟨hr.fr.clean, hr.mr, hr.gl, hr.df⟩
  | cons o l ih =>
    intro s s' ps ρ a W h hp hr hQ
    simp only [seqGo] at h
    split at h
    · rename_i ps1 sl1 m1 hA
      split at h
      · rename_i qs s1 hrest
        simp only [Option.some.injEq, Prod.mk.injEq] at h
        obtain ⟨rfl, rfl⟩ := h
        exact wpList_step fun K hK => opA_rel hT hr hA (fun p h => hp p (List.mem_append.2 (.inl h))) fun ρ a W hr' => hK _ _ (ih _ _ _ ρ a W hrest (fun p h => hp p (List.mem_append.2 (.inr h))) hr' hQ)
      · cases h
    · split at h
      · rename_i ps1 sl1 m1 ds hB
        split at h
        · rename_i qs s1 hrest
          simp only [Option.some.injEq, Prod.mk.injEq] at h
          obtain ⟨rfl, rfl⟩ := h
          exact wpList_step fun K hK => opB_rel hT hr hB (fun p h => hp p (List.mem_append.2 (.inl h))) fun ρ a W hr' => hK _ _ (ih _ _ _ ρ a W hrest (fun p h => hp p (List.mem_append.2 (.inr h))) hr' hQ)
        · cases h
      · cases h

theorem region_seq {id : Nat} {ops : Array Oper} {Q : Exit → Act → World → Prop} {s s' : St} {ps : List Prop} (hT : TabOk P T) (h : seqGo T ops.toList ops.toList s = some (ps, s')) (hp : ∀ p ∈ ps, p) (hr : Rel T B w0 ρ s.slots s.mem a W)
    (hQ : ∀ ρ a W, Rel T B w0 ρ s'.slots s'.mem a W → Q .normal a W) : (Code.region id ops false).wp P Q a W :=
  wp_region_list (seqGo_sound hT _ _ _ _ ρ a W h hp hr hQ)
end
end Go.Proofs.Ytiokmglajigngaa.Sx
