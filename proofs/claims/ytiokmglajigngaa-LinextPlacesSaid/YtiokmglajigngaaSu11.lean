/-
  A symbolic executor for the model's code: regions whose operations are numbered anew.
-/
import Derived.Test.YtiokmglajigngaaSuH
import Derived.Test.YtiokmglajigngaaSu10
namespace Go.Proofs.Ytiokmglajigngaa.Sx
open Go Go.RowKit
/-- An order in which a region's operations may come up. -/
def Vd (ops : Array Oper) : Array Bool → List Nat → Prop
  | listed, [] => Region.ready .any ops listed = []
  | listed, i :: r => i ∈ Region.ready .any ops listed ∧ Vd ops (listed.setIfInBounds i true) r
/-- Number i comes up behind number x only. -/
def OrdOk (x i : Nat) : Array Bool → List Nat → Prop
  | _, [] => True
  | listed, h :: r => (h = i → listed.getD x false = true) ∧ OrdOk x i (listed.setIfInBounds h true) r
theorem getD_set_mono {listed : Array Bool} {x h : Nat} (hx : listed.getD x false = true) : (listed.setIfInBounds h true).getD x false = true := by
  by_cases e : h = x
  · subst e
    have : h < listed.size := by
      rcases Nat.lt_or_ge h listed.size with h1 | h1
      · exact h1
      · simp [Array.getElem?_eq_none h1] at hx
    simp [this]
  · rw [getD_set_ne false e]; exact hx
theorem getD_set_same {listed : Array Bool} {x : Nat} (h : x < listed.size) (d : Bool) : (listed.setIfInBounds x true).getD x d = true := by simp [h]
theorem ordOk_mono {x i : Nat} : ∀ (L : List Nat) (listed : Array Bool), listed.getD x false = true → OrdOk x i listed L := by
  intro L
  induction L with
  | nil => intro _ _; trivial
  | cons h r ih => intro listed hx; exact ⟨fun _ => hx, ih _ (getD_set_mono hx)⟩
theorem ord_or {x i : Nat} (hne : x ≠ i) : ∀ (L : List Nat) (listed : Array Bool), x < listed.size → i < listed.size → OrdOk x i listed L ∨ OrdOk i x listed L := by
  intro L
  induction L with
  | nil => intro _ _ _; exact .inl trivial
  | cons h r ih =>
    intro listed hx hi
    by_cases h1 : listed.getD x false = true
    · exact .inl (ordOk_mono _ _ h1)
    by_cases h2 : listed.getD i false = true
    · exact .inr (ordOk_mono _ _ h2)
    by_cases e1 : h = i
    · subst e1
      exact .inr ⟨fun e => absurd e.symm hne, ordOk_mono _ _ (getD_set_same hi false)⟩
    by_cases e2 : h = x
    · subst e2
      exact .inl ⟨fun e => absurd e hne, ordOk_mono _ _ (getD_set_same hx false)⟩
    rcases ih (listed.setIfInBounds h true) (by simpa using hx) (by simpa using hi) with h3 | h3
    · exact .inl ⟨fun e => absurd e e1, h3⟩
    · exact .inr ⟨fun e => absurd e e2, h3⟩
theorem pNth_some {l : List Nat} {i : Nat} (h : i < l.length) : l[i]? = some (pNth l i) := by
  unfold pNth
  rw [nth_eq, List.getElem?_eq_getElem h]
theorem mvChk_get {n : Nat} {inv pi : List Nat} : ∀ {k : Nat}, mvChk n inv pi k = true → ∀ i, i < k → pNth pi i < n ∧ pNth inv (pNth pi i) = i ∧ pNth inv i < n ∧ pNth pi (pNth inv i) = i := by
  intro k
  induction k with
  | zero => intro _ i hi; omega
  | succ k ih =>
    intro h i hi
    simp only [mvChk, Bool.and_eq_true, Nat.blt_eq] at h
    obtain ⟨⟨⟨⟨h1, h2⟩, h3⟩, h4⟩, h5⟩ := h
    by_cases e : i = k
    · subst e; exact ⟨h1, Nat.eq_of_beq_eq_true h2, h3, Nat.eq_of_beq_eq_true h4⟩
    · exact ih h5 i (by omega)
theorem noGuard_get : ∀ {l : List Oper}, noGuard l = true → ∀ o ∈ l, o.guard = none := by
  intro l
  induction l with
  | nil => intro _ o h; cases h
  | cons x r ih =>
    intro h o ho
    simp only [noGuard, Bool.and_eq_true] at h
    rcases List.mem_cons.1 ho with rfl | ho
    · have h1 := h.1
      split at h1
      · assumption
      · cases h1
    · exact ih h.2 o ho
theorem exOk_get {n : Nat} : ∀ {l : List (Nat × Nat)}, exOk n l = true → ∀ p ∈ l, p.1 < n ∧ p.2 < n := by
  intro l
  induction l with
  | nil => intro _ p h; cases h
  | cons x r ih =>
    intro h p hp
    simp only [exOk, Bool.and_eq_true, Nat.blt_eq] at h
    rcases List.mem_cons.1 hp with rfl | hp
    · exact h.1
    · exact ih h.2 p hp
section
variable {ops : Array Oper} {inv pi : List Nat} {ex : List (Nat × Nat)}
structure Mv (ops : Array Oper) (inv pi : List Nat) (ex : List (Nat × Nat)) : Prop where
  ok : mvOk ops.toList inv pi ex = true
theorem Mv.len (h : Mv ops inv pi ex) : inv.length = ops.size ∧ pi.length = ops.size := by
  have := h.ok
  simp only [mvOk, Bool.and_eq_true] at this
  exact ⟨by simpa using Nat.eq_of_beq_eq_true this.1.1.1.1, by simpa using Nat.eq_of_beq_eq_true this.1.1.1.2⟩
theorem Mv.at (h : Mv ops inv pi ex) {i : Nat} (hi : i < ops.size) : pNth pi i < ops.size ∧ pNth inv (pNth pi i) = i ∧ pNth inv i < ops.size ∧ pNth pi (pNth inv i) = i := by
  have := h.ok
  simp only [mvOk, Bool.and_eq_true] at this
  have := mvChk_get this.1.1.2 i (by simpa using hi)
  simpa using this
theorem Mv.grd (h : Mv ops inv pi ex) {i : Nat} {o : Oper} (ho : ops[i]? = some o) : o.guard = none := by
  have := h.ok
  simp only [mvOk, Bool.and_eq_true] at this
  exact noGuard_get this.1.2 o (by rw [Array.mem_toList_iff]; exact Array.mem_of_getElem? ho)
theorem Mv.exs (h : Mv ops inv pi ex) {p : Nat × Nat} (hp : p ∈ ex) : p.1 < ops.size ∧ p.2 < ops.size := by
  have := h.ok
  simp only [mvOk, Bool.and_eq_true] at this
  have := exOk_get this.2 p hp
  simpa using this
theorem Mv.out (h : Mv ops inv pi ex) {i : Nat} (hi : ops.size ≤ i) : pNth pi i = i := by
  unfold pNth
  rw [nth_eq, List.getElem?_eq_none (by rw [h.len.2]; exact hi)]
theorem Mv.inj (h : Mv ops inv pi ex) {i j : Nat} (hi : i < ops.size) (hj : j < ops.size) (e : pNth pi i = pNth pi j) : i = j := by
  rw [← (h.at hi).2.1, ← (h.at hj).2.1, e]
theorem Mv.size (h : Mv ops inv pi ex) : (mvOps ops.toList inv pi ex).toArray.size = ops.size := by simp [mvOps, h.len.1]
theorem Mv.get (h : Mv ops inv pi ex) {i : Nat} {o : Oper} (ho : ops[i]? = some o) : (mvOps ops.toList inv pi ex).toArray[pNth pi i]? = some (mvOp pi ex i o) := by
  have hi : i < ops.size := (Array.getElem?_eq_some_iff.1 ho).1
  obtain ⟨h1, h2, _, _⟩ := h.at hi
  have hlt : pNth pi i < inv.length := by rw [h.len.1]; exact h1
  have e : inv[pNth pi i]? = some i := by rw [pNth_some hlt, h2]
  have ho2 : nth ops.toList i = some o := by rw [nth_eq]; simpa using ho
  simp only [mvOps, List.getElem?_toArray, List.getElem?_map, e, Option.map_some, ho2]
theorem Mv.get' (h : Mv ops inv pi ex) {j : Nat} {o' : Oper} (ho : (mvOps ops.toList inv pi ex).toArray[j]? = some o') : ∃ i o, j = pNth pi i ∧ ops[i]? = some o ∧ o' = mvOp pi ex i o := by
  have hj : j < ops.size := by rw [← h.size]; exact (Array.getElem?_eq_some_iff.1 ho).1
  obtain ⟨_, _, h3, h4⟩ := h.at hj
  have e := h.get (i := pNth inv j) (Array.getElem?_eq_getElem h3)
  rw [h4, ho] at e
  exact ⟨pNth inv j, _, h4.symm, Array.getElem?_eq_getElem h3, by simpa using e⟩
theorem mv_valid (h : Mv ops inv pi ex) : ∀ (L : List Nat) (l l' : Array Bool), l.size = ops.size → l'.size = ops.size → (∀ i, i < ops.size → l'.getD (pNth pi i) false = l.getD i false) → Vd ops l L → (∀ p ∈ ex, OrdOk p.1 p.2 l L) → Vd (mvOps ops.toList inv pi ex).toArray l' (L.map (pNth pi)) := by
  have two : ∀ (l : Array Bool) (i : Nat), i < l.size → l.getD i true = l.getD i false := fun l i hi => by simp [hi]
  intro L
  induction L with
  | nil =>
    intro l l' hl hl' hll hv _
    show Region.ready .any _ l' = []
    have hv : Region.ready .any ops l = [] := hv
    refine List.eq_nil_iff_forall_not_mem.2 fun j hj => ?_
    obtain ⟨h1, o', ho', h2⟩ := mem_ready.1 hj
    obtain ⟨i, o, rfl, ho, rfl⟩ := h.get' ho'
    have hi : i < ops.size := (Array.getElem?_eq_some_iff.1 ho).1
    have : i ∈ Region.ready .any ops l := mem_ready.2 ⟨by
      rw [two l i (by omega), ← hll i hi, ← two l' _ (by rw [hl']; exact (h.at hi).1)]; exact h1, o, ho, fun e he hb => by
      have h3 := h2 ⟨pNth pi e.on, e.ground⟩ (by simp only [mvOp, List.mem_toArray, List.mem_append, List.mem_map]; exact .inl ⟨e, by simpa using he, rfl⟩) hb
      rcases Nat.lt_or_ge e.on ops.size with h4 | h4
      · rw [← hll _ h4]; exact h3
      · have h3 : l'.getD (pNth pi e.on) false = true := h3
        rw [h.out h4] at h3
        simp [Array.getElem?_eq_none (show l'.size ≤ e.on by omega)] at h3⟩
    rw [hv] at this
    cases this
  | cons k r ih =>
    intro l l' hl hl' hll hv hex
    obtain ⟨h1, hv⟩ := hv
    obtain ⟨h1, o, ho, h2⟩ := mem_ready.1 h1
    have hk : k < ops.size := (Array.getElem?_eq_some_iff.1 ho).1
    refine ⟨mem_ready.2 ⟨?_, _, h.get ho, fun e he hb => ?_⟩, ih _ _ (by simpa using hl) (by simpa using hl') (fun i hi => ?_) hv (fun p hp => (hex p hp).2)⟩
    · rw [two l' _ (by rw [hl']; exact (h.at hk).1), hll k hk, ← two l k (by omega)]; exact h1
    · simp only [mvOp, List.mem_toArray, List.mem_append, List.mem_map, List.mem_filter] at he
      rcases he with ⟨e0, he0, rfl⟩ | ⟨p, ⟨hp, hp2⟩, rfl⟩
      · have h3 := h2 e0 (by simpa using he0) hb
        rcases Nat.lt_or_ge e0.on ops.size with h4 | h4
        · show l'.getD (pNth pi e0.on) false = true
          rw [hll _ h4]; exact h3
        · simp [Array.getElem?_eq_none (show l.size ≤ e0.on by omega)] at h3
      · show l'.getD (pNth pi p.1) false = true
        rw [hll _ (h.exs hp).1]
        exact (hex p hp).1 (Nat.eq_of_beq_eq_true hp2).symm
    · by_cases e : i = k
      · subst e
        rw [getD_set_same (by rw [hl']; exact (h.at hi).1), getD_set_same (by omega)]
      · rw [getD_set_ne false (fun e2 => e (h.inj hi hk e2.symm)), getD_set_ne false (Ne.symm e)]
        exact hll i hi
theorem mv_ops {P : Program} {Q : Exit → Act → World → Prop} (h : Mv ops inv pi ex) : ∀ (L : List Nat) (a : Act) (w : World), (∀ i ∈ L, i < ops.size) → wpOps P (mvOps ops.toList inv pi ex).toArray Q (L.map (pNth pi)) a w → wpOps P ops Q L a w := by
  intro L
  induction L with
  | nil => intro a w _ h; exact h
  | cons k r ih =>
    intro a w hL hw
    rw [List.map_cons, wpOps_cons] at hw
    rw [wpOps_cons]
    have hk := hL k List.mem_cons_self
    have ho : ops[k]? = some ops[k] := Array.getElem?_eq_getElem hk
    unfold wpOp at hw ⊢
    rw [h.get ho] at hw
    rw [ho]
    have hg := h.grd ho
    have w1 : ∀ y, Region.wanted ops[k] y = true := fun y => by simp [Region.wanted, hg]
    have w2 : ∀ y, Region.wanted (mvOp pi ex k ops[k]) y = true := fun y => by simp [Region.wanted, mvOp, hg]
    simp only [w1, w2, if_true] at hw ⊢
    refine hw.imp (fun h2 => ?_) (fun h2 => h2)
    have h3 : ops[k].wp P a w (wpOps P (mvOps ops.toList inv pi ex).toArray Q (r.map (pNth pi))) Q := h2
    exact Oper.wp_mono (fun a w hh => ih a w (fun i hi => hL i (List.mem_cons_of_mem _ hi)) hh) h3
end
theorem vd_lt {ops : Array Oper} : ∀ (L : List Nat) (l : Array Bool), Vd ops l L → ∀ i ∈ L, i < ops.size := by
  intro L
  induction L with
  | nil => intro l _ i h; cases h
  | cons k r ih =>
    intro l hv i hi
    rcases List.mem_cons.1 hi with rfl | hi
    · obtain ⟨_, o, ho, _⟩ := mem_ready.1 hv.1
      exact (Array.getElem?_eq_some_iff.1 ho).1
    · exact ih _ hv.2 i hi
theorem wpAny_vd {P : Program} {ops : Array Oper} {Q : Exit → Act → World → Prop} : ∀ (fuel : Nat) (L : List Nat) (l : Array Bool) (a : Act) (w : World), wpAny P .any ops Q fuel l a w → Vd ops l L → L.length ≤ fuel → wpOps P ops Q L a w := by
  intro fuel
  induction fuel with
  | zero =>
    intro L l a w h hv hl
    cases L with
    | nil => exact h.2
    | cons => simp at hl
  | succ fuel ih =>
    intro L l a w h hv hl
    cases L with
    | nil => exact h.1 hv
    | cons k r =>
      rw [wpOps_cons]
      exact wpOp_mono (fun a w hh => ih r _ a w hh hv.2 (by simpa using hl)) (h.2 k hv.1)
def openN (n : Nat) (l : Array Bool) : Nat := ((List.range n).filter (fun i => !l.getD i true)).length
theorem filter_le {p q : Nat → Bool} (h : ∀ j, p j = true → q j = true) : ∀ (L : List Nat), (L.filter p).length ≤ (L.filter q).length := by
  intro L
  induction L with
  | nil => exact Nat.le_refl _
  | cons x r ih =>
    rw [List.filter_cons, List.filter_cons]
    cases hp : p x
    · cases q x
      · exact ih
      · simp only [Bool.false_eq_true, if_false, if_true, List.length_cons]; omega
    · rw [h x hp]
      simp only [if_true, List.length_cons]; omega
theorem filter_lt {p q : Nat → Bool} (h : ∀ j, p j = true → q j = true) {i : Nat} (hp : p i = false) (hq : q i = true) : ∀ (L : List Nat), i ∈ L → (L.filter p).length < (L.filter q).length := by
  intro L
  induction L with
  | nil => intro h; cases h
  | cons x r ih =>
    intro hm
    rw [List.filter_cons, List.filter_cons]
    by_cases e : i = x
    · subst e
      have := filter_le h r
      rw [hp, hq]
      simp only [Bool.false_eq_true, if_false, if_true, List.length_cons]; omega
    · have := ih (by rcases List.mem_cons.1 hm with h | h; exact absurd h e; exact h)
      cases hpx : p x
      · cases q x
        · exact this
        · simp only [Bool.false_eq_true, if_false, if_true, List.length_cons]; omega
      · rw [h x hpx]
        simp only [if_true, List.length_cons]; omega
theorem openN_set {n i : Nat} {l : Array Bool} (hi : i < n) (h : l.getD i true = false) : openN n (l.setIfInBounds i true) < openN n l := by
  have hsz : i < l.size := by
    rcases Nat.lt_or_ge i l.size with h1 | h1
    · exact h1
    · simp [Array.getElem?_eq_none h1] at h
  refine filter_lt (i := i) (fun j hj => ?_) ?_ ?_ _ (List.mem_range.2 hi)
  · by_cases e : i = j
    · subst e; rw [getD_set_same hsz] at hj; cases hj
    · rw [getD_set_ne true e] at hj; exact hj
  · rw [getD_set_same hsz]; rfl
  · rw [h]; rfl
theorem go_vd {ops : Array Oper} : ∀ (fuel t : Nat) (l : Array Bool), openN ops.size l ≤ fuel → Vd ops l (Region.linearise.go .any ops fuel t l []) ∧ (Region.linearise.go .any ops fuel t l []).length ≤ fuel := by
  intro fuel
  induction fuel with
  | zero =>
    intro t l h
    refine ⟨?_, by simp [Region.linearise.go]⟩
    show Vd ops l ([] : List Nat).reverse
    show Region.ready .any ops l = []
    refine List.eq_nil_iff_forall_not_mem.2 fun i hi => ?_
    obtain ⟨h1, o, ho, _⟩ := mem_ready.1 hi
    have hi2 : i < ops.size := (Array.getElem?_eq_some_iff.1 ho).1
    have := openN_set hi2 h1
    omega
  | succ fuel ih =>
    intro t l h
    have e : Region.linearise.go .any ops (fuel + 1) t l [] = (match (Region.ready .any ops l)[t % (Region.ready .any ops l).length]? with
      | some i => Region.linearise.go .any ops fuel (t / (Region.ready .any ops l).length) (l.setIfInBounds i true) [i]
      | none => [].reverse) := rfl
    rw [e]
    cases hi : (Region.ready .any ops l)[t % (Region.ready .any ops l).length]? with
    | none =>
      have hnil : Region.ready .any ops l = [] := by
        cases hr : Region.ready .any ops l with
        | nil => rfl
        | cons x xs =>
          rw [hr] at hi
          have hlt : t % (x :: xs).length < (x :: xs).length := Nat.mod_lt _ (by simp)
          simp at hi
          simp at hlt
          omega
      exact ⟨hnil, by simp⟩
    | some i =>
      have hm := List.mem_of_getElem? hi
      obtain ⟨h1, o, ho, _⟩ := mem_ready.1 hm
      have hlt := openN_set (Array.getElem?_eq_some_iff.1 ho).1 h1
      obtain ⟨g1, g2⟩ := ih (t / (Region.ready .any ops l).length) (l.setIfInBounds i true) (by omega)
      simp only []
      rw [linearise_go_acc, List.reverse_singleton, List.singleton_append]
      exact ⟨⟨hm, g1⟩, by simpa using g2⟩
theorem openN_le (n : Nat) (l : Array Bool) : openN n l ≤ n := by
  unfold openN
  have := List.length_filter_le (fun i => !l.getD i true) (List.range n)
  simpa using this
/-- A region, where in every order one of three numberings fits. -/
theorem region_three {P : Program} (hm : P.follows .mixedOrders = true) {id : Nat} {ops : Array Oper} {Q : Exit → Act → World → Prop} {a : Act} {w : World} {i1 p1 i2 p2 i3 p3 : List Nat} {b q : Nat} (hb : q ≠ b) (hb2 : q ≠ b + 1)
    (m1 : Mv ops i1 p1 [(q, b)]) (m2 : Mv ops i2 p2 [(b, q), (q, b + 1)]) (m3 : Mv ops i3 p3 [(b, q), (b + 1, q)])
    (w1 : wpAny P .any (mvOps ops.toList i1 p1 [(q, b)]).toArray Q (mvOps ops.toList i1 p1 [(q, b)]).toArray.size (Array.replicate (mvOps ops.toList i1 p1 [(q, b)]).toArray.size false) a { w with drawn := w.drawn + 1 })
    (w2 : wpAny P .any (mvOps ops.toList i2 p2 [(b, q), (q, b + 1)]).toArray Q (mvOps ops.toList i2 p2 [(b, q), (q, b + 1)]).toArray.size (Array.replicate (mvOps ops.toList i2 p2 [(b, q), (q, b + 1)]).toArray.size false) a { w with drawn := w.drawn + 1 })
    (w3 : wpAny P .any (mvOps ops.toList i3 p3 [(b, q), (b + 1, q)]).toArray Q (mvOps ops.toList i3 p3 [(b, q), (b + 1, q)]).toArray.size (Array.replicate (mvOps ops.toList i3 p3 [(b, q), (b + 1, q)]).toArray.size false) a { w with drawn := w.drawn + 1 }) : (Code.region id ops true).wp P Q a w := by
  refine wp_region_draw fun t => ?_
  simp only [Region.schedule, hm, Bool.true_or, if_true]
  obtain ⟨hv, hl⟩ := go_vd (ops := ops) ops.size t (Array.replicate ops.size false) (openN_le _ _)
  have hsz : (Array.replicate ops.size false).size = ops.size := by simp
  have hz : ∀ (pi : List Nat) (i : Nat), i < ops.size → (Array.replicate ops.size false).getD (pNth pi i) false = (Array.replicate ops.size false).getD i false := fun pi i _ => by
    have hr : ∀ j, (Array.replicate ops.size false).getD j false = false := fun j => by
      simp only [Array.getD_eq_getD_getElem?, Array.getElem?_replicate]
      split <;> rfl
    rw [hr, hr]
  show wpOps P ops Q (Region.linearise.go .any ops ops.size t (Array.replicate ops.size false) []) a { w with drawn := w.drawn + 1 }
  generalize Region.linearise.go .any ops ops.size t (Array.replicate ops.size false) [] = L at hv hl
  have hbn := (m1.exs (p := (q, b)) (by simp))
  have hbn2 := (m2.exs (p := (q, b + 1)) (by simp))
  have fin : ∀ {inv pi : List Nat} {ex : List (Nat × Nat)}, Mv ops inv pi ex → wpAny P .any (mvOps ops.toList inv pi ex).toArray Q (mvOps ops.toList inv pi ex).toArray.size (Array.replicate (mvOps ops.toList inv pi ex).toArray.size false) a { w with drawn := w.drawn + 1 } → (∀ p ∈ ex, OrdOk p.1 p.2 (Array.replicate ops.size false) L) → wpOps P ops Q L a { w with drawn := w.drawn + 1 } := fun {inv pi ex} m hw he => by
    refine mv_ops m L a _ (vd_lt L _ hv) (wpAny_vd _ _ _ a _ hw ?_ (by rw [m.size]; simpa using hl))
    rw [m.size]
    exact mv_valid m L _ _ hsz hsz (hz pi) hv he
  rcases ord_or hb L (Array.replicate ops.size false) (by simpa using hbn.1) (by simpa using hbn.2) with h1 | h1
  · exact fin m1 w1 fun p hp => by rcases List.mem_singleton.1 hp with rfl; exact h1
  · rcases ord_or hb2 L (Array.replicate ops.size false) (by simpa using hbn2.1) (by simpa using hbn2.2) with h2 | h2
    · exact fin m2 w2 fun p hp => by
        rcases List.mem_cons.1 hp with rfl | hp
        · exact h1
        · rcases List.mem_singleton.1 hp with rfl; exact h2
    · exact fin m3 w3 fun p hp => by
        rcases List.mem_cons.1 hp with rfl | hp
        · exact h1
        · rcases List.mem_singleton.1 hp with rfl; exact h2
end Go.Proofs.Ytiokmglajigngaa.Sx
namespace Go.Proofs.Ytiokmglajigngaa.Sx
open Go Go.RowKit
def Ex.toExit : Ex → Exit
  | .normal => .normal
  | .ret => .ret
  | .exit id => .exit id
section
variable {P : Program} {T : Tab} {B : Lim} {w0 : World}
theorem head_ch {L : LAnn} {ws : List Nat} {s : St} {x : L.X} : ∀ (d : Nat) (t : Slot), (head L ws s x).slots[d]? = some t → t.ch = [] := by
  intro d t h
  simp only [head, get_headSlots, Option.map_eq_some_iff, Nat.zero_add] at h
  obtain ⟨s0, _, rfl⟩ := h
  split
  · rfl
  · cases memN d ws
    · simp only [cond_false]; split <;> rfl
    · rfl
theorem ghOne_mr {m m' : List MBlk} {g : Gh} {ps : List Prop} {ρ : Env} {W : World} (h : ghOne m g = some (ps, m')) (hp : ∀ p ∈ ps, p) (hm : MR B w0 W ρ m) : ∃ σ : Env, (∀ s y, ρ s = some y → σ s = some y) ∧ MR B w0 W σ m' := by
  unfold ghOne at h
  split at h
  · rename_i r ix
    split at h
    · rename_i e e' n lk len gs hr
      cases h
      have hix : ix < n := hp _ (List.mem_singleton.2 rfl)
      exact hm.take (nthM hr) hix
    · cases h
  · rename_i r off e w
    split at h
    · rename_i cs hr
      split at h
      · rename_i hc
        cases hw : Nat.blt 0 w
        · rw [hw] at h; cases h
        · rw [hw, cond_true] at h
          cases h
          exact hm.fresh (nthM hr) (nthM hc) (by rwa [Nat.blt_eq] at hw)
      · cases h
    · cases h
  · rename_i r
    split at h
    · rename_i e n cols hr
      cases h
      exact hm.freezeArr (nthM hr)
    · cases h
  · rename_i r cs
    split at h
    · rename_i e n cols hr
      cases hw : Nat.beq cs.length cols.length
      · rw [hw] at h; cases h
      · rw [hw, cond_true] at h
        cases h
        have h0 : n = 0 := hp _ (List.mem_singleton.2 rfl)
        subst h0
        exact ⟨ρ, fun _ _ h => h, hm.recol (nthM hr) (Nat.eq_of_beq_eq_true hw)⟩
    · cases h
theorem ghAll_mr : ∀ {gs : List Gh} {m m' : List MBlk} {ps : List Prop} {ρ : Env} {W : World}, ghAll gs m = some (ps, m') → (∀ p ∈ ps, p) → MR B w0 W ρ m → ∃ σ : Env, (∀ s y, ρ s = some y → σ s = some y) ∧ MR B w0 W σ m' := by
  intro gs
  induction gs with
  | nil => intro m m' ps ρ W h _ hm; cases h; exact ⟨ρ, fun _ _ h => h, hm⟩
  | cons g r ih =>
    intro m m' ps ρ W h hp hm
    simp only [ghAll] at h
    split at h
    · rename_i ps1 m1 h1
      split at h
      · rename_i qs m2 h2
        cases h
        obtain ⟨σ, e1, e2⟩ := ghOne_mr h1 (fun p hx => hp p (List.mem_append.2 (.inl hx))) hm
        obtain ⟨σ2, e3, e4⟩ := ih h2 (fun p hx => hp p (List.mem_append.2 (.inr hx))) e2
        exact ⟨σ2, fun s y hy => e3 s y (e1 s y hy), e4⟩
      · cases h
    · cases h
theorem takeRow_rel {id : Nat} {s s' : St} {ps : List Prop} {ρ : Env} {a : Act} {W : World} (h : takeRow T id s = some (ps, s')) (hp : ∀ p ∈ ps, p) (hr : Rel T B w0 ρ s.slots s.mem a W) : ∃ σ, Rel T B w0 σ s'.slots s'.mem a W := by
  unfold takeRow at h
  split at h
  · cases h; exact ⟨ρ, hr⟩
  · split at h
    · rename_i ps1 m1 h1
      cases h
      obtain ⟨σ, e1, e2⟩ := ghAll_mr h1 hp hr.mr
      exact ⟨σ, ⟨hr.fr.len, fun d sd hd => (hr.fr.ok d sd hd).mono e1⟩, e2, hr.gl.mono e1, hr.df⟩
    · cases h
theorem nextOf_some {s : St} {ops : List Oper} {left : Int → Int → Bool} {d r : Nat} {rest : List Oper} (h : nextOf T s ops = some (left, d, r, rest)) :
    ∃ o x cur, ops = o :: rest ∧ o.op = .next x false ∧ o.guard = none ∧ o.dst = some d ∧ useOp T s.slots [] x = some (.ptr r 0) ∧ s.mem[r]? = some (.iterp left cur) ∧ d < s.slots.length ∧ dstFree (some d) s.slots = true := by
  unfold nextOf at h
  split at h
  · rename_i o rest'
    split at h
    · rename_i x d' h1 h2 h3
      split at h
      · rename_i r' hx
        split at h
        · rename_i left' cur sl hm hs
          cases hd : dstFree (some d') s.slots
          · rw [hd] at h; cases h
          · simp only [hd, cond_true, Option.some.injEq, Prod.mk.injEq] at h
            obtain ⟨rfl, rfl, rfl, rfl⟩ := h
            exact ⟨o, x, cur, rfl, h1, h2, h3, hx, nthM hm, (List.getElem?_eq_some_iff.1 (nthM hs)).1, hd⟩
        · cases h
      · cases h
    · cases h
  · cases h
/-- A region that begins with a step of a map's loop. -/
theorem next_region {ρ : Env} {a : Act} {W : World} {s : St} {ops : Array Oper} {id : Nat} {Q : Exit → Act → World → Prop} {K : Ex → St → Prop} {left : Int → Int → Bool} {d r : Nat} {rest : List Oper} (hT : TabOk P T) (hn : nextOf T s ops.toList = some (left, d, r, rest)) (hr : Rel T B w0 ρ s.slots s.mem a W)
    (h1 : (∀ a b, left a b = false) → regionK T ops.toList rest ⟨setAt s.slots d ⟨[], .tup [.ff]⟩, s.mem, s.dirty⟩ K)
    (h2 : ∀ a b, left a b = true → regionK T ops.toList rest ⟨setAt s.slots d ⟨[], .tup [.tt, .agg [.i .i64 a, .i .i64 b], .tt]⟩, setAt s.mem r (.iterp (fun x y => left x y && !(x == a && y == b)) (some (a, b))), s.dirty⟩ K)
    (hQ : ∀ s' ρ a W, K .normal s' → Rel T B w0 ρ s'.slots s'.mem a W → Q .normal a W) : (Code.region id ops false).wp P Q a W := by
  obtain ⟨o, x, cur, hops, ho, hgd, hdst, hx, hm, hlt, hdf⟩ := nextOf_some hn
  refine wp_region_list ?_
  rw [hops]
  refine wpList_step fun Kc hK => ?_
  rw [if_pos (by simp [Region.wanted, hgd])]
  have hdx := useOp_den hr.gl hx (fun t st _ hn hsat => by rw [nth_eq] at hn; exact (hr.fr.ok t st hn).1 hsat) (fun q w hq => by cases hq)
  have hput : ∀ sv, putS s.slots o.dst ⟨[], sv⟩ = some (setAt s.slots d ⟨[], sv⟩) := fun sv => by
    simp only [putS, hdst, nth_eq, List.getElem?_eq_getElem hlt]
  have tl : ∀ {s1 : St} {ρ1 : Env} {a1 : Act} {W1 : World}, regionK T ops.toList rest s1 K → Rel T B w0 ρ1 s1.slots s1.mem a1 W1 → wpList P ops Q rest a1 W1 := fun {s1 ρ1 a1 W1} hk hr1 => by
    unfold regionK at hk
    split at hk
    · rename_i ps s' hg
      obtain ⟨k1, k2⟩ := conj_iff.1 hk
      exact seqGo_sound hT _ _ _ _ _ _ _ hg k1 hr1 fun ρ' a' W' hr' => hQ s' ρ' a' W' k2 hr'
    · exact hk.elim
  have two : OpTo P a o W (fun v W' => (v = .tuple #[.bool false] ∧ W' = W ∧ ∀ p q, left p q = false) ∨ ∃ p q, v = .tuple #[.bool true, pairV p q, .bool true] ∧ left p q = true ∧ MR B w0 W' ρ (setAt s.mem r (.iterp (fun x y => left x y && !(x == p && y == q)) (some (p, q))))) := by
    rcases next_run (P := P) (o := o) (a := a) hr.mr ho hdx hm with ⟨e1, e2⟩ | ⟨p, q, W', e1, e2, e3⟩
    · exact OpTo.value e2 (.inl ⟨rfl, rfl, e1⟩)
    · exact OpTo.value e2 (.inr ⟨p, q, rfl, e1, e3⟩)
  refine two.wp fun v W' hv => hK _ _ ?_
  rcases hv with ⟨rfl, rfl, hl⟩ | ⟨p, q, rfl, hl, hmr⟩
  · have hd2 : DenL ρ [.ff] [.bool false] := DenL.cons .ff (DenL.nil ρ)
    exact tl (h1 hl) ⟨hr.fr.put (fun _ _ h => h) (hput _) (by rw [hdst]; exact hdf) (fun d _ => by simp) (.inl ⟨(fun q w hq => by cases hq), .tup hd2.1 hd2.2⟩), hr.mr, hr.gl, by rw [put_defers]; exact hr.df⟩
  · have hd1 : DenL ρ [.i .i64 p, .i .i64 q] [.int .i64 p, .int .i64 q] := DenL.cons (.i _ _) (DenL.cons (.i _ _) (DenL.nil ρ))
    have hd2 : DenL ρ [.tt, .agg [.i .i64 p, .i .i64 q], .tt] [.bool true, pairV p q, .bool true] := DenL.cons .tt (DenL.cons (.agg hd1.1 hd1.2) (DenL.cons .tt (DenL.nil ρ)))
    exact tl (h2 p q hl) ⟨hr.fr.put (fun _ _ h => h) (hput _) (by rw [hdst]; exact hdf) (fun d _ => by simp) (.inl ⟨(fun q w hq => by cases hq), .tup hd2.1 hd2.2⟩), hmr, hr.gl, by rw [put_defers]; exact hr.df⟩
theorem any_of_draw {ops : Array Oper} {Q : Exit → Act → World → Prop} {s : St} {x : List Prop × St} {ρ : Env} {a : Act} {W : World} (hT : TabOk P T) (h : drawAny T ops s = some x) (hp : ∀ p ∈ x.1, p) (hr : Rel T B w0 ρ s.slots s.mem a W)
    (hQ : ∀ ρ a W, Rel T B w0 ρ x.2.slots x.2.mem a W → Q .normal a W) : wpAny P .any ops (fun e a w => e = .normal ∧ Q .normal a w) ops.size (Array.replicate ops.size false) a { W with drawn := W.drawn + 1 } := by
  obtain ⟨ps, s'⟩ := x
  unfold drawAny at h
  split at h
  · rename_i y hgo
    simp only [Option.some.injEq] at h
    subst h
    exact region_draw_any (Q := fun e a w => e = .normal ∧ Q .normal a w) hT hgo hp hr fun ρ' a' W' hr' => ⟨rfl, hQ ρ' a' W' hr'⟩
  · exact region_held_any hT h hp hr hQ
theorem region_split {ops : Array Oper} {id : Nat} {Q : Exit → Act → World → Prop} {K : St → Prop} {s : St} {x y z : List Prop × St} {ρ : Env} {a : Act} {W : World} (hT : TabOk P T) (h : drawSplit T ops s = some (x, y, z)) (hr : Rel T B w0 ρ s.slots s.mem a W)
    (hQ : ∀ st : List Prop × St, ∀ ρ a W, K st.2 → Rel T B w0 ρ st.2.slots st.2.mem a W → Q .normal a W) (hx : conj x.1 (K x.2)) (hy : conj y.1 (K y.2)) (hz : conj z.1 (K z.2)) : (Code.region id ops true).wp P Q a W := by
  unfold drawSplit at h
  simp only [drawSplit.splitAt3] at h
  generalize (seqA T ops.toList ops.toList s.slots s.mem).2.2.2.1.length = b at h
  cases hc : (mvOk ops.toList (mvInv (b + 2) b ops.toList.length) (mvPi (b + 2) b ops.toList.length) [(b + 2, b)] && mvOk ops.toList (mvInv (b + 2) (b + 1) ops.toList.length) (mvPi (b + 2) (b + 1) ops.toList.length) [(b, b + 2), (b + 2, b + 1)] && mvOk ops.toList (mvInv (b + 2) (b + 2) ops.toList.length) (mvPi (b + 2) (b + 2) ops.toList.length) [(b, b + 2), (b + 1, b + 2)] && !(Nat.beq (b + 2) b) && !(Nat.beq (b + 2) (b + 1)))
  · rw [hc] at h; cases h
  · rw [hc, cond_true] at h
    simp only [Bool.and_eq_true] at hc
    obtain ⟨⟨⟨⟨c1, c2⟩, c3⟩, _⟩, _⟩ := hc
    split at h
    · rename_i x' y' z' e1 e2 e3
      cases h
      obtain ⟨x1, x2⟩ := conj_iff.1 hx
      obtain ⟨y1, y2⟩ := conj_iff.1 hy
      obtain ⟨z1, z2⟩ := conj_iff.1 hz
      refine Code.wp_mono (Q := fun e a w => e = .normal ∧ Q .normal a w) (fun e a w hq => by obtain ⟨rfl, hq⟩ := hq; exact hq) (region_three hT.mixed (b := b) (q := b + 2) (by omega) (by omega) ⟨c1⟩ ⟨c2⟩ ⟨c3⟩ ?_ ?_ ?_)
      · exact any_of_draw hT e1 x1 hr fun ρ a W h => hQ x ρ a W x2 h
      · exact any_of_draw hT e2 y1 hr fun ρ a W h => hQ y ρ a W y2 h
      · exact any_of_draw hT e3 z1 hr fun ρ a W h => hQ z ρ a W z2 h
    · cases h
theorem vc_sound (hT : TabOk P T) : ∀ (n bid : Nat) (c : Code) (s : St) (K : Ex → St → Prop) (ρ : Env) (a : Act) (W : World) (Q : Exit → Act → World → Prop), vc T n bid c s K → Rel T B w0 ρ s.slots s.mem a W →
    (∀ e s' ρ' a' W', K e s' → Rel T B w0 ρ' s'.slots s'.mem a' W' → Q e.toExit a' W') → c.wp P Q a W := by
  intro n
  induction n with
  | zero => intro _ _ _ _ _ _ _ _ h; exact h.elim
  | succ n ih =>
    intro bid c s K ρ a W Q h hr hQ
    cases c with
    | skip => exact wp_skip (hQ .normal s ρ a W h hr)
    | label l => exact wp_label (hQ .normal s ρ a W h hr)
    | ret => exact wp_ret (hQ .ret s ρ a W h hr)
    | exit id => exact wp_exit (hQ (.exit id) s ρ a W h hr)
    | region id ops draw =>
      simp only [vc] at h
      split at h
      · rename_i tps s0 htr
        obtain ⟨htp, h⟩ := conj_iff.1 h
        obtain ⟨ρ, hr⟩ := takeRow_rel htr htp hr
        split at h
        · rename_i left d r rest hn
          cases draw with
          | true => exact h.elim
          | false =>
            simp only [cond_false] at h
            exact next_region hT hn hr h.1 h.2 fun s' ρ' a' W' h2 hr' => hQ .normal s' ρ' a' W' h2 hr'
        · cases draw with
          | true =>
            simp only [cond_true] at h
            split at h
            · rename_i ps s' hg
              obtain ⟨h1, h2⟩ := conj_iff.1 h
              unfold drawAny at hg
              split at hg
              · rename_i x hgo
                simp only [Option.some.injEq] at hg
                subst hg
                exact region_draw hT hgo h1 hr fun ρ' a' W' hr' => hQ .normal s' ρ' a' W' h2 hr'
              · exact region_held hT hg h1 hr fun ρ' a' W' hr' => hQ .normal s' ρ' a' W' h2 hr'
            · split at h
              · rename_i x y z hsp
                obtain ⟨hx, hy, hz⟩ := h
                exact region_split (K := fun st => K .normal st) hT hsp hr (fun st ρ' a' W' h2 hr' => hQ .normal st.2 ρ' a' W' h2 hr') hx hy hz
              · exact h.elim
          | false =>
            simp only [cond_false] at h
            split at h
            · rename_i ps s' hg
              obtain ⟨h1, h2⟩ := conj_iff.1 h
              exact region_seq hT hg h1 hr fun ρ' a' W' hr' => hQ .normal s' ρ' a' W' h2 hr'
            · exact h.elim
      · exact h.elim
    | seq x y =>
      simp only [vc] at h
      refine wp_seq (ih bid x s _ ρ a W _ h hr fun e s' ρ' a' W' hK hr' => ?_)
      cases e with
      | normal => exact ih bid y s' K ρ' a' W' Q hK hr' hQ
      | ret => exact hQ .ret s' ρ' a' W' hK hr'
      | exit id => exact hQ (.exit id) s' ρ' a' W' hK hr'
    | cond x y z =>
      simp only [vc] at h
      have hcl : ∀ {v : SV}, useOp T s.slots [] x = some v → Den ρ v (a.eval x) := fun hu => useOp_den hr.gl hu (fun t st _ hn hsat => by rw [nth_eq] at hn; exact (hr.fr.ok t st hn).1 hsat) (fun q w hq => by cases hq)
      have hre : ∀ (v : SV), Den ρ v (a.eval x) → Rel T B w0 ρ (refine s.slots x v) s.mem a W := fun v hv => by
        cases x <;> simp only [refine] <;> try exact hr
        rename_i t
        refine ⟨⟨by rw [length_setAt]; exact hr.fr.len, fun d t' ht' => ?_⟩, hr.mr, hr.gl, hr.df⟩
        rw [get_setAt] at ht'
        split at ht'
        · rename_i hd
          simp only [Option.some.injEq] at ht'
          subst ht'
          obtain ⟨rfl, _⟩ := hd
          exact ⟨fun _ => hv, fun hn => absurd (fun q w hq => by cases hq) hn⟩
        · exact hr.fr.ok d t' ht'
      split at h
      · rename_i hu
        exact wp_cond_true (hcl hu).tt_inv (ih bid y s K ρ a W Q h hr hQ)
      · rename_i hu
        exact wp_cond_false (hcl hu).ff_inv (ih bid z s K ρ a W Q h hr hQ)
      · rename_i t hu
        have hv := (hcl hu).b_inv
        refine wp_cond_split hv (fun ht => ?_) (fun ht => ?_)
        · subst ht
          exact ih bid y _ K ρ a W Q (h.1 rfl) (hre .tt (by rw [hv]; exact .tt)) hQ
        · subst ht
          exact ih bid z _ K ρ a W Q (h.2 rfl) (hre .ff (by rw [hv]; exact .ff)) hQ
      · exact h.elim
    | block id body =>
      simp only [vc] at h
      refine wp_block (ih id body s _ ρ a W _ h hr fun e s' ρ' a' W' hK hr' => ?_)
      cases e with
      | normal => exact hQ .normal s' ρ' a' W' hK hr'
      | ret => exact hQ .ret s' ρ' a' W' hK hr'
      | exit id' =>
        simp only [Ex.toExit, Exit.inBlock]
        simp only at hK
        by_cases e : id' = id
        · subst e
          rw [if_pos rfl]
          rw [Nat.beq_refl, cond_true] at hK
          exact hQ .normal s' ρ' a' W' hK hr'
        · rw [if_neg e]
          have : Nat.beq id' id = false := Bool.eq_false_iff.2 fun hb => e (Nat.eq_of_beq_eq_true hb)
          rw [this, cond_false] at hK
          exact hQ (.exit id') s' ρ' a' W' hK hr'
    | scope body =>
      simp only [vc] at h
      refine wp_scope_straight (ih bid body s _ ρ a W _ h hr fun e s' ρ' a' W' hK hr' => ?_)
      cases e with
      | normal => exact hQ .normal s' ρ' a' W' hK hr'
      | ret => exact hQ .ret s' ρ' a' W' hK hr'
      | exit id => exact hQ (.exit id) s' ρ' a' W' hK hr'
    | loop body =>
      simp only [vc] at h
      split at h
      · rename_i PL hL
        obtain ⟨y, ⟨x, hx, he1, he2⟩, hbody⟩ := h
        generalize PL.ann y = L at *
        obtain ⟨ρ1, hr1⟩ := rel_ren (ps := L.ren) hr
        generalize renAll (prot T) L.ren s = s1 at *
        have hG : ∀ x : L.X, (∀ g r, assoc T.globals g = some r → r < (head L (writes body) s1 x).mem.length) ∧ (∀ p, p ∈ T.pins → p.1 < (head L (writes body) s1 x).mem.length) := fun x => by
          simp only [head, length_headMem]
          refine ⟨fun g r hg => ?_, fun p hp => hr1.mr.dom _ (by rw [hr1.gl.pin p hp]; simp)⟩
          obtain ⟨c, hc⟩ := hr1.gl.gl g r hg
          exact hr1.mr.dom r (by rw [hc]; simp)
        have rounds : ∀ (k : Nat) (x : L.X) (ρ : Env) (a : Act) (W : World), L.mu x < k → L.inv x → Rel T B w0 ρ (head L (writes body) s1 x).slots (head L (writes body) s1 x).mem a W → Code.rounds P body Q k a W := by
          intro k
          induction k with
          | zero => intro x _ _ _ hlt; omega
          | succ k ihk =>
            intro x ρ a W hlt hix hrx
            have hb := hbody x hix
            cases hok : headOk (head L (writes body) s1 x)
            · simp [hok] at hb
            · simp only [hok, cond_true] at hb
              rw [rounds_succ]
              refine ih bid body _ _ ρ a W _ hb hrx fun e s' ρ' a' W' hK hr' => ?_
              cases e with
              | normal =>
                simp only [Ex.toExit, Exit.then]
                simp only at hK
                obtain ⟨x', hix', hmu, hs1, hs2⟩ := hK
                have hb' := hbody x' hix'
                cases hok' : headOk (head L (writes body) s1 x')
                · simp [hok'] at hb'
                · obtain ⟨ρ2, hr2⟩ := rel_ren (ps := L.ren) hr'
                  obtain ⟨σ, hσ⟩ := rel_back (hG x') head_ch hr2 hs1 hs2 hok'
                  exact ihk x' σ a' W' (by omega) hix' hσ
              | ret => exact hQ .ret s' ρ' a' W' hK hr'
              | exit id => exact hQ (.exit id) s' ρ' a' W' hK hr'
        exact wp_loop_rounds _ (rounds (L.mu x + 1) x ρ1 a W (by omega) hx (rel_enter hr1 he1 he2))
      · exact h.elim
    | _ => exact h.elim
theorem padS_get : ∀ (n d : Nat) (s : Slot), (padS n)[d]? = some s → s = ⟨[], .dead⟩ := by
  intro n
  induction n with
  | zero => intro d s h; simp [padS] at h
  | succ n ih =>
    intro d s h
    cases d with
    | zero => simp [padS] at h; exact h.symm
    | succ d => exact ih d s (by simpa [padS] using h)
theorem padS_len : ∀ (n : Nat), (padS n).length = n := by
  intro n
  induction n with
  | zero => rfl
  | succ n ih => simp [padS, ih]
theorem initSlots_get : ∀ (vs : List SV) (n d : Nat) (s : Slot), (initSlots vs n)[d]? = some s → s.ch = [] ∧ ((∃ v, vs[d]? = some v ∧ s.sv = v) ∨ s.sv = .dead) := by
  intro vs
  induction vs with
  | nil =>
    intro n d s h
    have := padS_get n d s h
    subst this
    exact ⟨rfl, .inr rfl⟩
  | cons x r ih =>
    intro n d s h
    cases d with
    | zero => simp [initSlots] at h; subst h; exact ⟨rfl, .inl ⟨x, rfl, rfl⟩⟩
    | succ d => exact ih (n - 1) d s (by simpa [initSlots] using h)
theorem initSlots_len : ∀ (vs : List SV) (n : Nat), (initSlots vs n).length = vs.length + (n - vs.length) := by
  intro vs
  induction vs with
  | nil => intro n; simp [initSlots, padS_len]
  | cons x r ih => intro n; simp [initSlots, ih]; omega
/-- One result's run. -/
def resRun (tmps : Array Value) : ResultVar → Sem Value
  | .tmp t => pure (tmps.getD t undef)
  | .cell a t => do loadVar t (← asAddr (tmps.getD a undef))
theorem resOne_den {rv : ResultVar} {sl : List Slot} {ρ : Env} {a : Act} {m : List MBlk} {W : World} (hT : TabOk P T) (hr : Rel T B w0 ρ sl m a W) {sv : SV} (h : resOne T sl m rv = some sv) : ∃ v, (resRun a.tmps rv).run P W = .ok v W ∧ Den ρ sv v := by
  have hu : ∀ {t : Nat} {v : SV}, useOp T sl [] (.tmp t) = some v → Den ρ v (a.tmps.getD t undef) := fun hu => useOp_den hr.gl hu (fun t st _ hn hsat => by rw [nth_eq] at hn; exact (hr.fr.ok t st hn).1 hsat) (fun q w hq => by cases hq)
  cases rv with
  | tmp t => exact ⟨_, rfl, hu h⟩
  | cell t ty =>
    simp only [resOne] at h
    split at h
    · rename_i ti r off hti hv
      split at h
      · rename_i cs hm
        obtain ⟨b, k, hb, e⟩ := (hu hv).ptr_inv
        obtain ⟨g, ty', vs, k', h1, _, h3, h4⟩ := hr.mr.blk r _ (nthM hm) (by rw [hb]; simp)
        rw [hb] at h1
        simp only [Option.some.injEq, Prod.mk.injEq] at h1
        obtain ⟨rfl, _⟩ := h1
        obtain ⟨u, hu1, hd⟩ := load_cells (W := W) (b := ⟨g, 0, none⟩) (hT.types ty ti hti) h fun j x hx => by
          obtain ⟨u, hu, hd⟩ := h4.get hx
          refine ⟨u, ?_, hd⟩
          have : (Addr.add ⟨g, 0, none⟩ j) = ⟨g, j, none⟩ := by unfold Addr.add; split <;> simp_all
          rw [this, cell_of_row W g j vs.toArray ty' (0, 0) h3]
          simpa using hu
        refine ⟨u, ?_, hd⟩
        have e2 : a.tmps.getD t undef = .pointer (some (Addr.add ⟨g, 0, none⟩ off)) := e
        simp only [resRun, e2]
        simp [asAddr, hu1]
      · cases h
    · cases h
theorem results_eq (fn : Func) (tmps : Array Value) : results fn tmps = (do let vs ← fn.results.mapM (resRun tmps); pure (if h : vs.size = 1 then vs[0] else .tuple vs)) := rfl
theorem retSV_den {fn : Func} {sl : List Slot} {ρ : Env} {a : Act} {m : List MBlk} {W : World} (hT : TabOk P T) (hr : Rel T B w0 ρ sl m a W) {sv : SV} (h : retSV T sl m fn.results.toList = some sv) : ∃ v, (results fn a.tmps).run P W = .ok v W ∧ Den ρ sv v := by
  have ha : ∀ {l : List ResultVar}, fn.results.toList = l → fn.results = l.toArray := fun h => by rw [← h]
  rw [results_eq]
  unfold retSV at h
  split at h
  · rename_i he
    simp only [Option.some.injEq] at h
    subst h
    exact ⟨.tuple #[], by simp [ha he], .tup (vs := []) rfl (fun j x v hx => by simp at hx)⟩
  · rename_i t he
    obtain ⟨v, h1, h2⟩ := resOne_den hT hr h
    exact ⟨v, by simp [ha he, h1], h2⟩
  · rename_i t u he
    split at h
    · rename_i x y hx hy
      simp only [Option.some.injEq] at h
      subst h
      obtain ⟨v, h1, h2⟩ := resOne_den hT hr hx
      obtain ⟨v', h1', h2'⟩ := resOne_den hT hr hy
      have := DenL.cons h2 (DenL.cons h2' (DenL.nil ρ))
      exact ⟨.tuple #[v, v'], by simp [ha he, h1, h1'], .tup this.1 this.2⟩
    · cases h
  · rename_i t u w he
    split at h
    · rename_i x y z hx hy hz
      simp only [Option.some.injEq] at h
      subst h
      obtain ⟨v, h1, h2⟩ := resOne_den hT hr hx
      obtain ⟨v', h1', h2'⟩ := resOne_den hT hr hy
      obtain ⟨v'', h1'', h2''⟩ := resOne_den hT hr hz
      have := DenL.cons h2 (DenL.cons h2' (DenL.cons h2'' (DenL.nil ρ)))
      exact ⟨.tuple #[v, v', v''], by simp [ha he, h1, h1', h1''], .tup this.1 this.2⟩
    · cases h
  · cases h
/-- A function's body in its own frame. -/
theorem fn_calls {f : FuncId} {fn : Func} {vs : List SV} {xs : List Value} {m : List MBlk} {ρ : Env} {W : World} {R : SV → List MBlk → Prop} (hT : TabOk P T) (hf : P.funcs[f]? = some fn) (hv : fnVc T fn vs m R) (hm : MR B w0 W ρ m) (hG : GlobOk T ρ) (hd : DenL ρ vs xs) :
    Calls P f xs.toArray W (fun e W' => ∃ v ρ' m' sv, e = .returned v ∧ Den ρ' sv v ∧ MR B w0 W' ρ' m' ∧ R sv m' ∧ GlobOk T ρ') := by
  unfold fnVc at hv
  split at hv
  · rename_i c hc
    refine calls_of_wp hf hc (vc_sound hT _ _ _ _ _ ρ _ W _ hv ⟨⟨?_, fun d s hs => ?_⟩, hm, hG, rfl⟩ fun e s' ρ' a' W' hK hr' => ?_)
    · simp only [initSlots_len, Array.size_append, Array.size_replicate, List.size_toArray, hd.1]
    · obtain ⟨h1, h2⟩ := initSlots_get _ _ _ _ hs
      refine ⟨fun _ => ?_, fun hn => absurd (fun q w hq => by rw [h1] at hq; cases hq) hn⟩
      rcases h2 with ⟨v, hv1, hv2⟩ | h2
      · obtain ⟨w, hw, hdw⟩ := hd.get hv1
        have hlt := (List.getElem?_eq_some_iff.1 hw).1
        rw [hv2]
        have : ((xs.toArray ++ Array.replicate (fn.ntmps - xs.toArray.size) undef).getD d undef) = w := by
          rw [Array.getD_eq_getD_getElem?, Array.getElem?_append_left (by simpa using hlt)]
          simp [hw]
        rw [this]
        exact hdw
      · rw [h2]; exact .dead _
    · have key : retK T fn.results.toList R .ret s' → ∃ v, (results fn a'.tmps).run P W' = .ok v W' ∧ ∃ v' ρ' m' sv, Ending.returned v = .returned v' ∧ Den ρ' sv v' ∧ MR B w0 W' ρ' m' ∧ R sv m' ∧ GlobOk T ρ' := fun hK => by
        simp only [retK] at hK
        split at hK
        · rename_i sv hsv
          obtain ⟨v, h1, h2⟩ := retSV_den hT hr' hsv
          exact ⟨v, h1, v, ρ', s'.mem, sv, rfl, h2, hr'.mr, hK, hr'.gl⟩
        · exact hK.elim
      cases e with
      | exit id => exact hK.elim
      | normal => exact ⟨hr'.df, key hK⟩
      | ret => exact ⟨hr'.df, key hK⟩
  · exact hv.elim
end
end Go.Proofs.Ytiokmglajigngaa.Sx
