/-
  The relation layer: the transitive closure, walked and by Warshall.
-/
import Derived.Test.YtcbmbnlgilampaaRw8
namespace Go.Proofs.Ytcbmbnlgilampaa
open Go Go.Proofs.Ytcbmbnlgilampaa.Sx

inductive Tr (f : Pf) : Int → Int → Prop
  | one {a b : Int} : f a b = true → Tr f a b
  | tail {a b c : Int} : Tr f a b → f b c = true → Tr f a c
theorem Tr.trans {f : Pf} {a b c : Int} (h : Tr f a b) (h' : Tr f b c) : Tr f a c := by
  induction h' with
  | one e => exact .tail h e
  | tail _ e ih => exact .tail ih e
/-- Pairs of numbers below n. -/
def Sup (n : Nat) (f : Pf) : Prop := ∀ a b, f a b = true → 0 ≤ a ∧ a < (n : Int) ∧ 0 ≤ b ∧ b < (n : Int)
theorem Tr.sup {n : Nat} {f : Pf} (hs : Sup n f) {a b : Int} (h : Tr f a b) : 0 ≤ a ∧ a < (n : Int) ∧ 0 ≤ b ∧ b < (n : Int) := by
  induction h with
  | one e => exact hs _ _ e
  | tail _ e ih => have := hs _ _ e; omega

/-! ### Warshall -/
def wF (f : Pf) : Nat → Pf
  | 0 => f
  | m + 1 => fun a b => wF f m a b || (wF f m a m && wF f m m b)
theorem wF_mono {f : Pf} {a b : Int} : ∀ {m k : Nat}, m ≤ k → wF f m a b = true → wF f k a b = true := by
  intro m k h
  induction k with
  | zero => intro e; have : m = 0 := by omega
            subst this; exact e
  | succ k ih =>
    intro e
    by_cases hm : m = k + 1
    · subst hm; exact e
    · simp only [wF, ih (by omega) e, Bool.true_or]
theorem wF_sound {f : Pf} {a b : Int} : ∀ {m : Nat}, wF f m a b = true → Tr f a b := by
  intro m
  induction m generalizing a b with
  | zero => exact fun e => .one e
  | succ m ih =>
    intro e
    simp only [wF, Bool.or_eq_true, Bool.and_eq_true] at e
    rcases e with e | ⟨e1, e2⟩
    · exact ih e
    · exact (ih e1).trans (ih e2)
theorem wF_thru {f : Pf} : ∀ {m k : Nat} {a b : Int}, k < m → wF f m a k = true → wF f m k b = true → wF f m a b = true := by
  intro m
  induction m with
  | zero => intro k a b h; omega
  | succ m ih =>
    intro k a b hk h1 h2
    simp only [wF, Bool.or_eq_true, Bool.and_eq_true] at h1 h2 ⊢
    by_cases e : k = m
    · subst e
      have e1 : wF f k a k = true := by rcases h1 with h | h; exact h; exact h.1
      have e2 : wF f k k b = true := by rcases h2 with h | h; exact h; exact h.2
      exact .inr ⟨e1, e2⟩
    · have hk2 : k < m := by omega
      rcases h1 with h1 | ⟨h1, h3⟩ <;> rcases h2 with h2 | ⟨h2, h4⟩
      · exact .inl (ih hk2 h1 h2)
      · exact .inr ⟨ih hk2 h1 h2, h4⟩
      · exact .inr ⟨h1, ih hk2 h3 h2⟩
      · exact .inr ⟨h1, h4⟩
theorem wF_iff {n : Nat} {f : Pf} (hs : Sup n f) {a b : Int} : wF f n a b = true ↔ Tr f a b := by
  refine ⟨wF_sound, fun h => ?_⟩
  induction h with
  | one e => exact wF_mono (m := 0) (Nat.zero_le _) e
  | @tail b c h e ih =>
    have h1 := hs _ _ e
    obtain ⟨k, rfl⟩ := Int.eq_ofNat_of_zero_le h1.1
    exact wF_thru (k := k) (by omega) ih (wF_mono (m := 0) (Nat.zero_le _) e)

/-! ### The walk -/
def putF (s : Pf) (a c : Int) : Pf := fun x y => (x == a && y == c) || s x y
def dfs (R : List (List Int)) (a : Int) : Nat → Int → Pf → Pf
  | 0, _, s => s
  | F + 1, b, s => (nthD [] R b.toNat).foldl (fun s c => bif s a c then s else dfs R a F c (putF s a c)) s
def dstep (R : List (List Int)) (a : Int) (F : Nat) : Pf → Int → Pf := fun s c => bif s a c then s else dfs R a F c (putF s a c)
theorem dfs_succ (R : List (List Int)) (a : Int) (F : Nat) (b : Int) (s : Pf) : dfs R a (F + 1) b s = (nthD [] R b.toNat).foldl (dstep R a F) s := rfl
/-- How many numbers the row lacks. -/
def unv (n : Nat) (s : Pf) (a : Int) : Nat := ((List.range n).filter (fun c : Nat => !s a c)).length
theorem putF_iff {s : Pf} {a c x y : Int} : putF s a c x y = true ↔ (x = a ∧ y = c) ∨ s x y = true := by
  simp [putF]
theorem filter_len_le {α : Type} {p q : α → Bool} {l : List α} (h : ∀ x ∈ l, p x = true → q x = true) : (l.filter p).length ≤ (l.filter q).length := by
  induction l with
  | nil => simp
  | cons x l ih =>
    have ih := ih fun y hy => h y (List.mem_cons_of_mem _ hy)
    have hx := h x List.mem_cons_self
    simp only [List.filter_cons]
    split <;> split <;> simp <;> first | omega | (rename_i e1 e2; exact absurd (hx e1) e2)
theorem filter_len_lt {α : Type} {p q : α → Bool} {l : List α} (h : ∀ x ∈ l, p x = true → q x = true) {y : α} (hy : y ∈ l) (h1 : p y = false) (h2 : q y = true) : (l.filter p).length < (l.filter q).length := by
  induction l with
  | nil => cases hy
  | cons x l ih =>
    have hx := h x List.mem_cons_self
    have hle := filter_len_le (l := l) fun y hy => h y (List.mem_cons_of_mem _ hy)
    simp only [List.filter_cons]
    rcases List.mem_cons.1 hy with rfl | hy
    · rw [h1, h2]; simp; omega
    · have ih := ih (fun y hy => h y (List.mem_cons_of_mem _ hy)) hy
      split <;> split <;> simp <;> first | omega | (rename_i e1 e2; exact absurd (hx e1) e2)
theorem unv_mono {n : Nat} {s s' : Pf} {a : Int} (h : ∀ y, s a y = true → s' a y = true) : unv n s' a ≤ unv n s a := filter_len_le fun x _ hx => by
  cases e : s a x
  · rfl
  · rw [h _ e] at hx; exact hx
theorem unv_put {n : Nat} {s : Pf} {a c : Int} (h0 : 0 ≤ c) (h1 : c < n) (h : s a c = false) : unv n (putF s a c) a < unv n s a := by
  obtain ⟨k, rfl⟩ := Int.eq_ofNat_of_zero_le h0
  refine filter_len_lt (fun x _ hx => ?_) (y := k) (List.mem_range.2 (by omega)) ?_ ?_
  · cases e : s a x
    · rfl
    · rw [putF_iff.2 (.inr e)] at hx; exact hx
  · rw [putF_iff.2 (.inl ⟨rfl, rfl⟩)]; rfl
  · rw [h]; rfl
theorem unv_le {n : Nat} {s : Pf} {a : Int} : unv n s a ≤ n := Nat.le_trans (List.length_filter_le _ _) (by simp)

/-- The rows say what f says. -/
structure RowsOf (n : Nat) (f : Pf) (R : List (List Int)) : Prop where
  sup : Sup n f
  mem : ∀ b c, 0 ≤ b → b < (n : Int) → (c ∈ nthD [] R b.toNat ↔ f b c = true)
/-- What is known behind a part of the walk from b. -/
structure Wk (f : Pf) (a b : Int) (L : List Int) (s s' : Pf) : Prop where
  mono : ∀ x y, s x y = true → s' x y = true
  only : ∀ x y, s' x y = true → s x y = true ∨ (x = a ∧ Tr f b y)
  all : ∀ c ∈ L, s' a c = true
  shut : ∀ c, s' a c = true → s a c = true ∨ ∀ d, f c d = true → s' a d = true
theorem wk_fold {n : Nat} {f : Pf} {R : List (List Int)} (hr : RowsOf n f R) {a : Int} {F : Nat} {b : Int} (ih : ∀ c s, 0 ≤ c → c < (n : Int) → unv n s a < F → Wk f a c (nthD [] R c.toNat) s (dfs R a F c s)) : ∀ (L : List Int) (s : Pf), (∀ c ∈ L, f b c = true) → unv n s a < F + 1 → Wk f a b L s (L.foldl (dstep R a F) s) := by
  intro L
  induction L with
  | nil => exact fun s _ _ => ⟨fun _ _ h => h, fun _ _ h => .inl h, fun _ h => (by cases h), fun _ h => .inl h⟩
  | cons c L ihL =>
    intro s hL hu
    rw [List.foldl_cons]
    have hc := hL c List.mem_cons_self
    have hcn := hr.sup _ _ hc
    have h1 : Wk f a b [c] s (dstep R a F s c) := by
      unfold dstep
      cases e : s a c
      · have hu2 := unv_put hcn.2.2.1 hcn.2.2.2 e
        have w := ih c (putF s a c) hcn.2.2.1 hcn.2.2.2 (by omega)
        refine ⟨fun x y h => w.mono _ _ (putF_iff.2 (.inr h)), fun x y h => ?_, fun d hd => ?_, fun d hd => ?_⟩
        · rcases w.only x y h with h | ⟨rfl, h⟩
          · rcases putF_iff.1 h with ⟨rfl, rfl⟩ | h
            · exact .inr ⟨rfl, .one hc⟩
            · exact .inl h
          · rename_i h'
            exact .inr ⟨rfl, (Tr.one hc).trans h'⟩
        · cases hd with
          | head => exact w.mono _ _ (putF_iff.2 (.inl ⟨rfl, rfl⟩))
          | tail _ h => cases h
        · rcases w.shut d hd with h | h
          · rcases putF_iff.1 h with ⟨_, rfl⟩ | h
            · exact .inr fun x hx => w.all x ((hr.mem d x hcn.2.2.1 hcn.2.2.2).2 hx)
            · exact .inl h
          · exact .inr h
      · exact ⟨fun _ _ h => h, fun _ _ h => .inl h, fun d hd => (by
          rw [List.mem_singleton.1 hd]; exact e), fun _ h => .inl h⟩
    have hm := unv_mono (n := n) (s := s) (s' := dstep R a F s c) (a := a) (h1.mono a)
    have h2 := ihL (dstep R a F s c) (fun d hd => hL d (List.mem_cons_of_mem _ hd)) (by omega)
    refine ⟨fun x y h => h2.mono _ _ (h1.mono _ _ h), fun x y h => (h2.only x y h).elim (h1.only x y) .inr, fun d hd => ?_, fun d hd => ?_⟩
    · rcases List.mem_cons.1 hd with rfl | hd
      · exact h2.mono _ _ (h1.all _ List.mem_cons_self)
      · exact h2.all d hd
    · rcases h2.shut d hd with h | h
      · rcases h1.shut d h with h | h
        · exact .inl h
        · exact .inr fun x hx => h2.mono _ _ (h x hx)
      · exact .inr h
theorem wk_dfs {n : Nat} {f : Pf} {R : List (List Int)} (hr : RowsOf n f R) {a : Int} : ∀ (F : Nat) (b : Int) (s : Pf), 0 ≤ b → b < (n : Int) → unv n s a < F → Wk f a b (nthD [] R b.toNat) s (dfs R a F b s) := by
  intro F
  induction F with
  | zero => intro b s _ _ h; omega
  | succ F ih =>
    intro b s h1 h2 h3
    rw [dfs_succ]
    exact wk_fold hr (fun c s q1 q2 q3 => ih c s q1 q2 q3) _ s (fun c hc => (hr.mem b c h1 h2).1 hc) h3

/-- The closure's rows up to k. -/
def clsG (R : List (List Int)) (n : Nat) : Nat → Pf
  | 0 => fun _ _ => false
  | k + 1 => dfs R k (n + 1) k (clsG R n k)
theorem clsG_iff {n : Nat} {f : Pf} {R : List (List Int)} (hr : RowsOf n f R) : ∀ k, k ≤ n → ∀ x y, clsG R n k x y = true ↔ 0 ≤ x ∧ x < (k : Int) ∧ Tr f x y := by
  intro k
  induction k with
  | zero => intro _ x y; simp only [clsG]; constructor; intro h; cases h; intro h; omega
  | succ k ih =>
    intro hk x y
    have ih := ih (by omega)
    have w := wk_dfs hr (a := (k : Int)) (n + 1) (k : Int) (clsG R n k) (by omega) (by omega) (by have := unv_le (n := n) (s := clsG R n k) (a := (k : Int)); omega)
    simp only [clsG]
    constructor
    · intro h
      rcases w.only x y h with h | ⟨e, h'⟩
      · have := (ih x y).1 h
        exact ⟨this.1, by omega, this.2.2⟩
      · rw [e]; exact ⟨by omega, by omega, h'⟩
    · rintro ⟨h1, h2, h3⟩
      by_cases e : x < (k : Int)
      · exact w.mono _ _ ((ih x y).2 ⟨h1, e, h3⟩)
      · have e : x = (k : Int) := by omega
        rw [e] at h3 ⊢
        clear h1 h2 e
        induction h3 with
        | one e => exact w.all _ ((hr.mem _ _ (by omega) (by omega)).2 e)
        | @tail c d h e ih2 =>
          rcases w.shut c ih2 with h4 | h4
          · have := (ih _ _).1 h4; omega
          · exact h4 d e
theorem clsG_eq {n : Nat} {f : Pf} {R : List (List Int)} (hr : RowsOf n f R) : clsG R n n = wF f n := by
  funext x y
  rw [Bool.eq_iff_iff, clsG_iff hr n (Nat.le_refl n), wF_iff hr.sup]
  constructor
  · exact fun h => h.2.2
  · exact fun h => ⟨(h.sup hr.sup).1, (h.sup hr.sup).2.1, h⟩
theorem rowsOf_suc {n : Nat} {f : Pf} (hs : Sup n f) : RowsOf n f (sucL n f) := ⟨hs, fun b c h0 h1 => by
  obtain ⟨k, rfl⟩ := Int.eq_ofNat_of_zero_le h0
  rw [Int.toNat_natCast, nthD_sucL (by omega), List.mem_map]
  constructor
  · rintro ⟨p, hp, rfl⟩
    obtain ⟨b, _, h, rfl⟩ := mem_rowL.1 hp
    exact h
  · intro h
    have := hs _ _ h
    obtain ⟨j, rfl⟩ := Int.eq_ofNat_of_zero_le this.2.2.1
    exact ⟨_, mem_rowL.2 ⟨j, by omega, h, rfl⟩, rfl⟩⟩
theorem sup_set {N : Int} {l : List Pq} (hv : validF N l = true) : Sup N.toNat (setF l) := fun a b h => by
  obtain ⟨h1, h2, h3⟩ := validF_iff.1 hv
  have := h3 _ (setF_iff.1 h)
  simp only at this
  omega
end Go.Proofs.Ytcbmbnlgilampaa
