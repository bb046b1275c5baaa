/-
  The linext layer: relations: the closure.
-/
import Derived.Test.YtiokmglajigngaaW3
namespace Go.Proofs.Ytiokmglajigngaa
open Go Go.Proofs.Ytiokmglajigngaa.Sx
set_option maxRecDepth 100000
set_option linter.unusedSimpArgs false
set_option linter.unusedVariables false
inductive Tr (f : Pf) : Int → Int → Prop
  | one {a b : Int} : f a b = true → Tr f a b
  | tail {a b c : Int} : Tr f a b → f b c = true → Tr f a c
theorem Tr.trans {f : Pf} {a b c : Int} (h : Tr f a b) (h' : Tr f b c) : Tr f a c := by
  induction h' with
  | one e => exact .tail h e
  | tail _ e ih => exact .tail ih e
/-- Pairs of numbers below n. -/
def Sup (n : Nat) (f : Pf) : Prop := ∀ a b, f a b = true → 0 ≤ a ∧ a < (n : Int) ∧ 0 ≤ b ∧ b < (n : Int)
theorem Tr.sup {n : Nat} {f : Pf} (hs : Sup n f) {a b : Int} (h : Tr f a b) : 0 ≤ a ∧ a < (n : Int) ∧ 0 ≤ b ∧ b < (n : Int) := by
  induction h with
  | one e => exact hs _ _ e
  | tail _ e ih => have := hs _ _ e; omega
def wF (f : Pf) : Nat → Pf
  | 0 => f
  | m + 1 => fun a b => wF f m a b || (wF f m a m && wF f m m b)
theorem wF_mono {f : Pf} {a b : Int} : ∀ {m k : Nat}, m ≤ k → wF f m a b = true → wF f k a b = true := by
  intro m k h
  induction k with
  | zero => intro e; have : m = 0 := by omega
            subst this; exact e
  | succ k ih =>
    intro e
    by_cases hm : m = k + 1
    · subst hm; exact e
    · simp only [wF, ih (by omega) e, Bool.true_or]
theorem wF_sound {f : Pf} {a b : Int} : ∀ {m : Nat}, wF f m a b = true → Tr f a b := by
  intro m
  induction m generalizing a b with
  | zero => exact fun e => .one e
  | succ m ih =>
    intro e
    simp only [wF, Bool.or_eq_true, Bool.and_eq_true] at e
    rcases e with e | ⟨e1, e2⟩
    · exact ih e
    · exact (ih e1).trans (ih e2)
theorem wF_thru {f : Pf} : ∀ {m k : Nat} {a b : Int}, k < m → wF f m a k = true → wF f m k b = true → wF f m a b = true := by
  intro m
  induction m with
  | zero => intro k a b h; omega
  | succ m ih =>
    intro k a b hk h1 h2
    simp only [wF, Bool.or_eq_true, Bool.and_eq_true] at h1 h2 ⊢
    by_cases e : k = m
    · subst e
      have e1 : wF f k a k = true := by rcases h1 with h | h; exact h; exact h.1
      have e2 : wF f k k b = true := by rcases h2 with h | h; exact h; exact h.2
      exact .inr ⟨e1, e2⟩
    · have hk2 : k < m := by omega
      rcases h1 with h1 | ⟨h1, h3⟩ <;> rcases h2 with h2 | ⟨h2, h4⟩
      · exact .inl (ih hk2 h1 h2)
      · exact .inr ⟨ih hk2 h1 h2, h4⟩
      · exact .inr ⟨h1, ih hk2 h3 h2⟩
      · exact .inr ⟨h1, h4⟩
theorem wF_iff {n : Nat} {f : Pf} (hs : Sup n f) {a b : Int} : wF f n a b = true ↔ Tr f a b := by
  refine ⟨wF_sound, fun h => ?_⟩
  induction h with
  | one e => exact wF_mono (m := 0) (Nat.zero_le _) e
  | @tail b c h e ih =>
    have h1 := hs _ _ e
    obtain ⟨k, rfl⟩ := Int.eq_ofNat_of_zero_le h1.1
    exact wF_thru (k := k) (by omega) ih (wF_mono (m := 0) (Nat.zero_le _) e)
def putF (s : Pf) (a c : Int) : Pf := fun x y => (x == a && y == c) || s x y
def dfs (R : List (List Int)) (a : Int) : Nat → Int → Pf → Pf
  | 0, _, s => s
  | F + 1, b, s => (nthD [] R b.toNat).foldl (fun s c => bif s a c then s else dfs R a F c (putF s a c)) s
def dstep (R : List (List Int)) (a : Int) (F : Nat) : Pf → Int → Pf := fun s c => bif s a c then s else dfs R a F c (putF s a c)
theorem dfs_succ (R : List (List Int)) (a : Int) (F : Nat) (b : Int) (s : Pf) : dfs R a (F + 1) b s = (nthD [] R b.toNat).foldl (dstep R a F) s := rfl
/-- How many numbers the row lacks. -/
def unv (n : Nat) (s : Pf) (a : Int) : Nat := ((List.range n).filter (fun c : Nat => !s a c)).length
theorem putF_iff {s : Pf} {a c x y : Int} : putF s a c x y = true ↔ (x = a ∧ y = c) ∨ s x y = true := by
  simp [putF]
theorem filter_len_le {α : Type} {p q : α → Bool} {l : List α} (h : ∀ x ∈ l, p x = true → q x = true) : (l.filter p).length ≤ (l.filter q).length := by
  induction l with
  | nil => simp
  | cons x l ih =>
    have ih := ih fun y hy => h y (List.mem_cons_of_mem _ hy)
    have hx := h x List.mem_cons_self
    simp only [List.filter_cons]
    split <;> split <;> simp <;> first | omega | (rename_i e1 e2; exact absurd (hx e1) e2)
theorem filter_len_lt {α : Type} {p q : α → Bool} {l : List α} (h : ∀ x ∈ l, p x = true → q x = true) {y : α} (hy : y ∈ l) (h1 : p y = false) (h2 : q y = true) : (l.filter p).length < (l.filter q).length := by
  induction l with
  | nil => cases hy
  | cons x l ih =>
    have hx := h x List.mem_cons_self
    have hle := filter_len_le (l := l) fun y hy => h y (List.mem_cons_of_mem _ hy)
    simp only [List.filter_cons]
    rcases List.mem_cons.1 hy with rfl | hy
    · rw [h1, h2]; simp; omega
    · have ih := ih (fun y hy => h y (List.mem_cons_of_mem _ hy)) hy
      split <;> split <;> simp <;> first | omega | (rename_i e1 e2; exact absurd (hx e1) e2)
theorem unv_mono {n : Nat} {s s' : Pf} {a : Int} (h : ∀ y, s a y = true → s' a y = true) : unv n s' a ≤ unv n s a := filter_len_le fun x _ hx => by
  cases e : s a x
  · rfl
  · rw [h _ e] at hx; exact hx
theorem unv_put {n : Nat} {s : Pf} {a c : Int} (h0 : 0 ≤ c) (h1 : c < n) (h : s a c = false) : unv n (putF s a c) a < unv n s a := by
  obtain ⟨k, rfl⟩ := Int.eq_ofNat_of_zero_le h0
  refine filter_len_lt (fun x _ hx => ?_) (y := k) (List.mem_range.2 (by omega)) ?_ ?_
  · cases e : s a x
    · rfl
    · rw [putF_iff.2 (.inr e)] at hx; exact hx
  · rw [putF_iff.2 (.inl ⟨rfl, rfl⟩)]; rfl
  · rw [h]; rfl
theorem unv_le {n : Nat} {s : Pf} {a : Int} : unv n s a ≤ n := Nat.le_trans (List.length_filter_le _ _) (by simp)
/-- The rows say what f says. -/
structure RowsOf (n : Nat) (f : Pf) (R : List (List Int)) : Prop where
  sup : Sup n f
  mem : ∀ b c, 0 ≤ b → b < (n : Int) → (c ∈ nthD [] R b.toNat ↔ f b c = true)
/-- What is known behind a part of the walk from b. -/
structure Wk (f : Pf) (a b : Int) (L : List Int) (s s' : Pf) : Prop where
  mono : ∀ x y, s x y = true → s' x y = true
  only : ∀ x y, s' x y = true → s x y = true ∨ (x = a ∧ Tr f b y)
  all : ∀ c ∈ L, s' a c = true
  shut : ∀ c, s' a c = true → s a c = true ∨ ∀ d, f c d = true → s' a d = true
theorem wk_fold {n : Nat} {f : Pf} {R : List (List Int)} (hr : RowsOf n f R) {a : Int} {F : Nat} {b : Int} (ih : ∀ c s, 0 ≤ c → c < (n : Int) → unv n s a < F → Wk f a c (nthD [] R c.toNat) s (dfs R a F c s)) : ∀ (L : List Int) (s : Pf), (∀ c ∈ L, f b c = true) → unv n s a < F + 1 → Wk f a b L s (L.foldl (dstep R a F) s) := by
  intro L
  induction L with
  | nil => exact fun s _ _ => ⟨fun _ _ h => h, fun _ _ h => .inl h, fun _ h => (by cases h), fun _ h => .inl h⟩
  | cons c L ihL =>
    intro s hL hu
    rw [List.foldl_cons]
    have hc := hL c List.mem_cons_self
    have hcn := hr.sup _ _ hc
    have h1 : Wk f a b [c] s (dstep R a F s c) := by
      unfold dstep
      cases e : s a c
      · have hu2 := unv_put hcn.2.2.1 hcn.2.2.2 e
        have w := ih c (putF s a c) hcn.2.2.1 hcn.2.2.2 (by omega)
        refine ⟨fun x y h => w.mono _ _ (putF_iff.2 (.inr h)), fun x y h => ?_, fun d hd => ?_, fun d hd => ?_⟩
        · rcases w.only x y h with h | ⟨rfl, h⟩
          · rcases putF_iff.1 h with ⟨rfl, rfl⟩ | h
            · exact .inr ⟨rfl, .one hc⟩
            · exact .inl h
          · rename_i h'
            exact .inr ⟨rfl, (Tr.one hc).trans h'⟩
        · cases hd with
          | head => exact w.mono _ _ (putF_iff.2 (.inl ⟨rfl, rfl⟩))
          | tail _ h => cases h
        · rcases w.shut d hd with h | h
          · rcases putF_iff.1 h with ⟨_, rfl⟩ | h
            · exact .inr fun x hx => w.all x ((hr.mem d x hcn.2.2.1 hcn.2.2.2).2 hx)
            · exact .inl h
          · exact .inr h
      · exact ⟨fun _ _ h => h, fun _ _ h => .inl h, fun d hd => (by
          rw [List.mem_singleton.1 hd]; exact e), fun _ h => .inl h⟩
    have hm := unv_mono (n := n) (s := s) (s' := dstep R a F s c) (a := a) (h1.mono a)
    have h2 := ihL (dstep R a F s c) (fun d hd => hL d (List.mem_cons_of_mem _ hd)) (by omega)
    refine ⟨fun x y h => h2.mono _ _ (h1.mono _ _ h), fun x y h => (h2.only x y h).elim (h1.only x y) .inr, fun d hd => ?_, fun d hd => ?_⟩
    · rcases List.mem_cons.1 hd with rfl | hd
      · exact h2.mono _ _ (h1.all _ List.mem_cons_self)
      · exact h2.all d hd
    · rcases h2.shut d hd with h | h
      · rcases h1.shut d h with h | h
        · exact .inl h
        · exact .inr fun x hx => h2.mono _ _ (h x hx)
      · exact .inr h
theorem wk_dfs {n : Nat} {f : Pf} {R : List (List Int)} (hr : RowsOf n f R) {a : Int} : ∀ (F : Nat) (b : Int) (s : Pf), 0 ≤ b → b < (n : Int) → unv n s a < F → Wk f a b (nthD [] R b.toNat) s (dfs R a F b s) := by
  intro F
  induction F with
  | zero => intro b s _ _ h; omega
  | succ F ih =>
    intro b s h1 h2 h3
    rw [dfs_succ]
    exact wk_fold hr (fun c s q1 q2 q3 => ih c s q1 q2 q3) _ s (fun c hc => (hr.mem b c h1 h2).1 hc) h3
/-- The closure's rows up to k. -/
def clsG (R : List (List Int)) (n : Nat) : Nat → Pf
  | 0 => fun _ _ => false
  | k + 1 => dfs R k (n + 1) k (clsG R n k)
theorem clsG_iff {n : Nat} {f : Pf} {R : List (List Int)} (hr : RowsOf n f R) : ∀ k, k ≤ n → ∀ x y, clsG R n k x y = true ↔ 0 ≤ x ∧ x < (k : Int) ∧ Tr f x y := by
  intro k
  induction k with
  | zero => intro _ x y; simp only [clsG]; constructor; intro h; cases h; intro h; omega
  | succ k ih =>
    intro hk x y
    have ih := ih (by omega)
    have w := wk_dfs hr (a := (k : Int)) (n + 1) (k : Int) (clsG R n k) (by omega) (by omega) (by have := unv_le (n := n) (s := clsG R n k) (a := (k : Int)); omega)
    simp only [clsG]
    constructor
    · intro h
      rcases w.only x y h with h | ⟨e, h'⟩
      · have := (ih x y).1 h
        exact ⟨this.1, by omega, this.2.2⟩
      · rw [e]; exact ⟨by omega, by omega, h'⟩
    · rintro ⟨h1, h2, h3⟩
      by_cases e : x < (k : Int)
      · exact w.mono _ _ ((ih x y).2 ⟨h1, e, h3⟩)
      · have e : x = (k : Int) := by omega
        rw [e] at h3 ⊢
        clear h1 h2 e
        induction h3 with
        | one e => exact w.all _ ((hr.mem _ _ (by omega) (by omega)).2 e)
        | @tail c d h e ih2 =>
          rcases w.shut c ih2 with h4 | h4
          · have := (ih _ _).1 h4; omega
          · exact h4 d e
theorem clsG_eq {n : Nat} {f : Pf} {R : List (List Int)} (hr : RowsOf n f R) : clsG R n n = wF f n := by
  funext x y
  rw [Bool.eq_iff_iff, clsG_iff hr n (Nat.le_refl n), wF_iff hr.sup]
  constructor
  · exact fun h => h.2.2
  · exact fun h => ⟨(h.sup hr.sup).1, (h.sup hr.sup).2.1, h⟩
theorem rowsOf_suc {n : Nat} {f : Pf} (hs : Sup n f) : RowsOf n f (sucL n f) := ⟨hs, fun b c h0 h1 => by
  obtain ⟨k, rfl⟩ := Int.eq_ofNat_of_zero_le h0
  rw [Int.toNat_natCast, nthD_sucL (by omega), List.mem_map]
  constructor
  · rintro ⟨p, hp, rfl⟩
    obtain ⟨b, _, h, rfl⟩ := mem_rowL.1 hp
    exact h
  · intro h
    have := hs _ _ h
    obtain ⟨j, rfl⟩ := Int.eq_ofNat_of_zero_le this.2.2.1
    exact ⟨_, mem_rowL.2 ⟨j, by omega, h, rfl⟩, rfl⟩⟩
theorem sup_set {N : Int} {l : List Pq} (hv : validF N l = true) : Sup N.toNat (setF l) := fun a b h => by
  obtain ⟨h1, h2, h3⟩ := validF_iff.1 hv
  have := h3 _ (setF_iff.1 h)
  simp only at this
  omega
def rowN (R : List (List Int)) (b : Int) : List Int := nthD [] R b.toNat
def visF : SV := .fn 54 [.ptr 0 0, .ptr 1 0, .ptr 2 0, .ptr 3 0]
def visM (R : List (List Int)) (a : Int) (s : Pf) : List MBlk := [.cells [.sl 5 R.length], .cells [.i .i64 a], .cells [.mp 4], .cells [visF], .mapp s, .oarr 25 R.length (rsCols R)]
def visV (b : Int) : List SV := [.i .i64 b, .ptr 0 0, .ptr 1 0, .ptr 2 0, .ptr 3 0]
def visUp (R : List (List Int)) (a : Int) (s : Pf) : List (Nat × MBlk) := [(0, .cells [.sl 5 R.length]), (1, .cells [.i .i64 a]), (2, .cells [.mp 4]), (3, .cells [visF]), (4, .mapp s), (5, .oarr 25 R.length (rsCols R))]
def kVisF (R : List (List Int)) (F : Nat) : List MBlk → List SV → Option BRes
  | m, [.i .i64 b, .ptr e1 0, .ptr e2 0, .ptr e3 0, .ptr e4 0] => match nth m e1, nth m e2, nth m e3, nth m e4 with
    | some (.cells [.sl r n]), some (.cells [.i .i64 a]), some (.cells [.mp q]), some (.cells [.fn 54 [.ptr p1 0, .ptr p2 0, .ptr p3 0, .ptr p4 0]]) => match nth m r, nth m q with
      | some (.oarr 25 n' [.rows len [g]]), some (.mapp s) =>
        bif Nat.beq p1 e1 && Nat.beq p2 e2 && Nat.beq p3 e3 && Nat.beq p4 e4 && nodupN [e1, e2, e3, e4, q, r] then
          some (tB [e1, e2, e3, e4, q, r] [] (visUp R a (dfs R a F b s)) (.tup []) [n = R.length, n' = R.length, len = (fun j => (nthD [] R j).length), g = (fun j i => nthD 0 (nthD [] R j) i), 0 ≤ b ∧ b < (R.length : Int), unv R.length s a < F])
        else none
      | _, _ => none
    | _, _, _, _ => none
  | _, _ => none
def kVis (R : List (List Int)) (F : Nat) : Nat × (List MBlk → List SV → Option BRes) := (54, kVisF R F)
def lVis (R : List (List Int)) (F : Nat) (a b : Int) (s : Pf) : LAnn := lCnt (rowN R b).length 14 (fun _ => True) (fun i => [(4, .mapp (((rowN R b).take i).foldl (dstep R a F) s))]) []
def visPost (R : List (List Int)) (a : Int) (s : Pf) : SV → List MBlk → Prop := fun sv m' => veq (.tup []) sv ∧ memAll (expGo (visUp R a s) 0 6) m'
def tabV (R : List (List Int)) (F : Nat) (loops : List (Nat × PLoop)) (pins : List (Nat × (Option Addr × Nat))) : Tab := ⟨tyTab, [], [], loops, [kVis R F], pins, [], []⟩
theorem foldl_mono {n : Nat} {f : Pf} {R : List (List Int)} (hr : RowsOf n f R) {a : Int} {F : Nat} {b : Int} {L : List Int} {s : Pf} (hL : ∀ c ∈ L, f b c = true) (hu : unv n s a < F + 1) : unv n (L.foldl (dstep R a F) s) a ≤ unv n s a :=
  unv_mono ((wk_fold hr (fun c s q1 q2 q3 => wk_dfs hr F c s q1 q2 q3) L s hL hu).mono a)
theorem v54_eq (R : List (List Int)) (F : Nat) (a b : Int) (s : Pf) (x : Nat → Option Addr × Nat) : (fnVc (tabV R F [(0, .of (lVis R F a b s))] (pinsOf x [] 6)) Try.f54 (visV b) (visM R a s) (visPost R a (dfs R a (F + 1) b s))) = (((0 : Int) ≤ b ∧ b < (↑R.length : Int)) ∧
 b.toNat < R.length ∧
 ∃ (x : PUnit),
 (∃ (x : Nat),
 (x ≤ (rowN R b).length ∧ True) ∧
 ((0 : Int) = (↑x : Int) ∧ True) ∧
 (∀ (x_1 y : Int), s x_1 y = List.foldl (dstep R a F) s (List.take x (rowN R b)) x_1 y) ∧ True) ∧
 ∀ (x_1 : Nat),
 x_1 ≤ (rowN R b).length ∧ True →
 (decide ((↑x_1 : Int) < (↑(nthD [] R b.toNat).length : Int)) = true →
 ((0 : Int) ≤ (↑x_1 : Int) ∧ (↑x_1 : Int) < (↑(nthD [] R b.toNat).length : Int)) ∧
 x_1 < (nthD [] R b.toNat).length ∧
 ((!List.foldl (dstep R a F) s (List.take x_1 (rowN R b)) a
 (nthD (0 : Int) (nthD [] R b.toNat) x_1)) =
 true →
 R.length = R.length ∧
 R.length = R.length ∧
 ((fun (j : Nat) => (nthD [] R j).length) = fun (j : Nat) => (nthD [] R j).length) ∧
 ((fun (j i : Nat) => nthD (0 : Int) (nthD [] R j) i) = fun (j i : Nat) =>
 nthD (0 : Int) (nthD [] R j) i) ∧
 ((0 : Int) ≤ nthD (0 : Int) (nthD [] R b.toNat) x_1 ∧
 nthD (0 : Int) (nthD [] R b.toNat) x_1 < (↑R.length : Int)) ∧
 unv R.length
 (fun (a_4 b_1 : Int) =>
 a_4 == a && b_1 == nthD (0 : Int) (nthD [] R b.toNat) x_1 ||
 List.foldl (dstep R a F) s (List.take x_1 (rowN R b)) a_4 b_1)
 a <
 F ∧
 ∃ (x_2 : Nat),
 (x_2 ≤ (rowN R b).length ∧ True) ∧
 ((PLoop.of (lVis R F a b s)).ann x).mu x_2 <
 ((PLoop.of (lVis R F a b s)).ann x).mu x_1 ∧
 (b = b ∧
 True ∧
 True ∧
 True ∧
 True ∧
 R.length = R.length ∧
 b = b ∧
 b.toNat = b.toNat ∧
 (nthD [] R b.toNat).length = (nthD [] R b.toNat).length ∧
 (↑(nthD [] R b.toNat).length : Int) =
 (↑(nthD [] R b.toNat).length : Int) ∧
 IntKind.i64.wrap ((↑x_1 : Int) + (1 : Int)) =
 (↑x_2 : Int) ∧
 True) ∧
 R.length = R.length ∧
 a = a ∧
 True ∧
 (True ∧ True ∧ True ∧ True) ∧
 (∀ (x y : Int),
 dfs R a F (nthD (0 : Int) (nthD [] R b.toNat) x_1)
 (fun (a_4 b_1 : Int) =>
 a_4 == a &&
 b_1 == nthD (0 : Int) (nthD [] R b.toNat) x_1 ||
 List.foldl (dstep R a F) s (List.take x_1 (rowN R b))
 a_4 b_1)
 x y =
 List.foldl (dstep R a F) s (List.take x_2 (rowN R b)) x y) ∧
 (R.length = R.length ∧
 ((∀ (j : Nat),
 j < R.length →
 (nthD [] R j).length = (nthD [] R j).length) ∧
 (∀ (j : Nat),
 j < R.length →
 ∀ (i : Nat),
 i < (nthD [] R j).length →
 nthD (0 : Int) (nthD [] R j) i =
 nthD (0 : Int) (nthD [] R j) i) ∧
 True) ∧
 True) ∧
 ((nthD [] R b.toNat).length = (nthD [] R b.toNat).length ∧
 (∀ (j : Nat),
 j < (nthD [] R b.toNat).length →
 nthD (0 : Int) (nthD [] R b.toNat) j =
 nthD (0 : Int) (nthD [] R b.toNat) j) ∧
 True) ∧
 True) ∧
 ((!List.foldl (dstep R a F) s (List.take x_1 (rowN R b)) a
 (nthD (0 : Int) (nthD [] R b.toNat) x_1)) =
 false →
 ∃ (x_2 : Nat),
 (x_2 ≤ (rowN R b).length ∧ True) ∧
 ((PLoop.of (lVis R F a b s)).ann x).mu x_2 < ((PLoop.of (lVis R F a b s)).ann x).mu x_1 ∧
 (b = b ∧
 True ∧
 True ∧
 True ∧
 True ∧
 R.length = R.length ∧
 b = b ∧
 b.toNat = b.toNat ∧
 (nthD [] R b.toNat).length = (nthD [] R b.toNat).length ∧
 (↑(nthD [] R b.toNat).length : Int) =
 (↑(nthD [] R b.toNat).length : Int) ∧
 IntKind.i64.wrap ((↑x_1 : Int) + (1 : Int)) = (↑x_2 : Int) ∧ True) ∧
 R.length = R.length ∧
 a = a ∧
 True ∧
 (True ∧ True ∧ True ∧ True) ∧
 (∀ (x y : Int),
 List.foldl (dstep R a F) s (List.take x_1 (rowN R b)) x y =
 List.foldl (dstep R a F) s (List.take x_2 (rowN R b)) x y) ∧
 (R.length = R.length ∧
 ((∀ (j : Nat),
 j < R.length → (nthD [] R j).length = (nthD [] R j).length) ∧
 (∀ (j : Nat),
 j < R.length →
 ∀ (i : Nat),
 i < (nthD [] R j).length →
 nthD (0 : Int) (nthD [] R j) i =
 nthD (0 : Int) (nthD [] R j) i) ∧
 True) ∧
 True) ∧
 ((nthD [] R b.toNat).length = (nthD [] R b.toNat).length ∧
 (∀ (j : Nat),
 j < (nthD [] R b.toNat).length →
 nthD (0 : Int) (nthD [] R b.toNat) j =
 nthD (0 : Int) (nthD [] R b.toNat) j) ∧
 True) ∧
 True)) ∧
 (decide ((↑x_1 : Int) < (↑(nthD [] R b.toNat).length : Int)) = false →
 True ∧
 R.length = R.length ∧
 a = a ∧
 True ∧
 (True ∧ True ∧ True ∧ True) ∧
 (∀ (x y : Int),
 List.foldl (dstep R a F) s (List.take x_1 (rowN R b)) x y =
 dfs R a (F + (1 : Nat)) b s x y) ∧
 (R.length = R.length ∧
 ((∀ (j : Nat), j < R.length → (nthD [] R j).length = (nthD [] R j).length) ∧
 (∀ (j : Nat),
 j < R.length →
 ∀ (i : Nat),
 i < (nthD [] R j).length →
 nthD (0 : Int) (nthD [] R j) i = nthD (0 : Int) (nthD [] R j) i) ∧
 True) ∧
 True) ∧
 True)) := by kernel_rfl
theorem v54 (R : List (List Int)) (F : Nat) (a b : Int) (s : Pf) (x : Nat → Option Addr × Nat) {f : Pf} (hr : RowsOf R.length f R) (hl : ∀ j, (nthD [] R j).length ≤ 64) (hb : 0 ≤ b ∧ b < (R.length : Int)) (hu : unv R.length s a < F + 1) : fnVc (tabV R F [(0, .of (lVis R F a b s))] (pinsOf x [] 6)) Try.f54 (visV b) (visM R a s) (visPost R a (dfs R a (F + 1) b s)) := by
  rw [v54_eq]
  simp only [eq_self, true_and, and_true, implies_true, imp_self, psK_eq, mkN_ps, mkN_rs, mkN_self, mkN_len, PLoop.of, lCnt, lVis, AV.len]
  refine ⟨hb, by omega, (), ⟨0, by simp, rfl, fun x y => by simp⟩, fun i hi => ⟨fun hlt => ?_, fun hlt x y => ?_⟩⟩
  · have hi2 : i < (nthD [] R b.toNat).length := lt_len hlt
    have hlb := hl b.toNat
    have hmem : nthD 0 (nthD [] R b.toNat) i ∈ nthD [] R b.toNat := by rw [nthD_get _ _ _ hi2]; exact List.getElem_mem hi2
    have hf := (hr.mem b _ hb.1 hb.2).1 hmem
    have hc := hr.sup _ _ hf
    have hmo := foldl_mono hr (L := List.take i (rowN R b)) (s := s) (a := a) (F := F) (b := b) (fun c hc => (hr.mem b c hb.1 hb.2).1 (List.mem_of_mem_take hc)) hu
    have ht : List.take (i + 1) (rowN R b) = List.take i (rowN R b) ++ [nthD 0 (nthD [] R b.toNat) i] := take_succ' 0 hi2
    refine ⟨bd hi2, hi2, fun hn => ⟨⟨hc.2.2.1, hc.2.2.2⟩, ?_, i + 1, ?_, ?_, wrS (n := 64) (by omega) (by omega), fun x y => ?_⟩, fun hn => ⟨i + 1, ?_, ?_, wrS (n := 64) (by omega) (by omega), fun x y => ?_⟩⟩
    · have hn2 : List.foldl (dstep R a F) s (List.take i (rowN R b)) a (nthD 0 (nthD [] R b.toNat) i) = false := by simpa using hn
      have := unv_put (n := R.length) hc.2.2.1 hc.2.2.2 hn2
      have h3 : unv R.length (fun a_4 b_1 => a_4 == a && b_1 == nthD 0 (nthD [] R b.toNat) i || List.foldl (dstep R a F) s (List.take i (rowN R b)) a_4 b_1) a < unv R.length (List.foldl (dstep R a F) s (List.take i (rowN R b))) a := this
      omega
    · exact hi2
    · have : i < (rowN R b).length := hi2
      omega
    · have hn2 : List.foldl (dstep R a F) s (List.take i (rowN R b)) a (nthD 0 (nthD [] R b.toNat) i) = false := by simpa using hn
      rw [ht, List.foldl_append]
      show _ = dstep R a F (List.foldl (dstep R a F) s (List.take i (rowN R b))) (nthD 0 (nthD [] R b.toNat) i) x y
      rw [dstep, hn2]
      rfl
    · exact hi2
    · have : i < (rowN R b).length := hi2
      omega
    · have hn2 : List.foldl (dstep R a F) s (List.take i (rowN R b)) a (nthD 0 (nthD [] R b.toNat) i) = true := by simpa using hn
      rw [ht, List.foldl_append]
      show _ = dstep R a F (List.foldl (dstep R a F) s (List.take i (rowN R b))) (nthD 0 (nthD [] R b.toNat) i) x y
      rw [dstep, hn2]
      rfl
  · have hi2 : i = (rowN R b).length := ge_len hlt hi
    rw [hi2, List.take_length, dfs_succ]
    rfl
theorem fo54 : fnOk Try.prog 54 := ⟨Try.f54, Try.func54, by kernel_rfl, by kernel_rfl⟩
theorem tabVOk {R : List (List Int)} {F : Nat} {loops : List (Nat × PLoop)} {pins : List (Nat × (Option Addr × Nat))} (h : CallOkB Try.prog [] 54 (kVisF R F)) : TabOk Try.prog (tabV R F loops pins) := ⟨mixed, tys, ints, fun _ _ hf => (by cases hf), fun g G hf => (by
  have h2 := assoc_mem hf
  rcases List.mem_singleton.1 h2 with h3
  cases h3
  exact h)⟩
theorem vis_inv {R : List (List Int)} {F : Nat} {m : List MBlk} {vs : List SV} {b : BRes} (h : kVisF R F m vs = some b) : ∃ (y : Int) (e1 e2 e3 e4 r q n n' : Nat) (a : Int) (len : Nat → Nat) (g : Nat → Nat → Int) (s : Pf),
    vs = [.i .i64 y, .ptr e1 0, .ptr e2 0, .ptr e3 0, .ptr e4 0] ∧ nth m e1 = some (.cells [.sl r n]) ∧ nth m e2 = some (.cells [.i .i64 a]) ∧ nth m e3 = some (.cells [.mp q]) ∧ nth m e4 = some (.cells [.fn 54 [.ptr e1 0, .ptr e2 0, .ptr e3 0, .ptr e4 0]]) ∧
    nth m r = some (.oarr 25 n' [.rows len [g]]) ∧ nth m q = some (.mapp s) ∧ nodupN [e1, e2, e3, e4, q, r] = true ∧
    b = tB [e1, e2, e3, e4, q, r] [] (visUp R a (dfs R a F y s)) (.tup []) [n = R.length, n' = R.length, len = (fun j => (nthD [] R j).length), g = (fun j i => nthD 0 (nthD [] R j) i), 0 ≤ y ∧ y < (R.length : Int), unv R.length s a < F] := by
  unfold kVisF at h
  repeat' (split at h)
  all_goals first | cases h | skip
  rename_i _ _ y e1 e2 e3 e4 _ _ _ _ r n a q p1 p2 p3 p4 h1 h2 h3 h4 _ _ n' len g s h5 h6
  cases hc : (p1.beq e1 && p2.beq e2 && p3.beq e3 && p4.beq e4 && nodupN [e1, e2, e3, e4, q, r]) <;> rw [hc] at h
  · cases h
  · simp only [Bool.and_eq_true] at hc
    obtain ⟨⟨⟨⟨q1, q2⟩, q3⟩, q4⟩, q5⟩ := hc
    have q1 := Nat.eq_of_beq_eq_true q1
    have q2 := Nat.eq_of_beq_eq_true q2
    have q3 := Nat.eq_of_beq_eq_true q3
    have q4 := Nat.eq_of_beq_eq_true q4
    subst q1; subst q2; subst q3; subst q4
    simp only [cond_true, Option.some.injEq] at h
    exact ⟨_, _, _, _, _, _, _, _, _, _, _, _, _, rfl, h1, h2, h3, h4, h5, h6, q5, h.symm⟩
theorem b54 {R : List (List Int)} {f : Pf} (hr : RowsOf R.length f R) (hl : ∀ j, (nthD [] R j).length ≤ 64) : ∀ F, CallOkB Try.prog [] 54 (kVisF R F) := by
  intro F
  induction F with
  | zero =>
    refine callOkB Try.func54 fo54 fun m vs b h hp => ?_
    obtain ⟨y, e1, e2, e3, e4, r, q, n, n', a, len, g, s, rfl, h1, h2, h3, h4, h5, h6, h7, rfl⟩ := vis_inv h
    have := hp (unv R.length s a < 0) (by simp [tB])
    omega
  | succ F ih =>
    refine callOkB Try.func54 fo54 fun m vs b h hp => ?_
    obtain ⟨y, e1, e2, e3, e4, r, q, n, n', a, len, g, s, rfl, h1, h2, h3, h4, h5, h6, h7, rfl⟩ := vis_inv h
    have p1 := hp (n = R.length) (by simp [tB])
    have p2 := hp (n' = R.length) (by simp [tB])
    have p3 := hp (len = _) (.tail _ (.tail _ (.head _)))
    have p4 := hp (g = _) (.tail _ (.tail _ (.tail _ (.head _))))
    have p5 := hp (0 ≤ y ∧ y < (R.length : Int)) (by simp [tB])
    have p6 := hp (unv R.length s a < F + 1) (by simp [tB])
    subst p1; subst p2; subst p3; subst p4
    refine ⟨tabV R F [(0, .of (lVis R F a y s))] [], [e1, e2, e3, e4, q, r], visM R a s, visV y, [], visUp R a (dfs R a (F + 1) y s), .tup [], _, fun pins => tabVOk ih, rfl, rfl, h7, rfl, rfl, fun i k0 hk => ?_, rfl, fun x => v54 R F a y s x hr hl p5 p6⟩
    rw [nth_eq] at h1 h2 h3 h4 h5 h6
    match i with
    | 0 => cases hk; exact h1
    | 1 => cases hk; exact h2
    | 2 => cases hk; exact h3
    | 3 => cases hk; exact h4
    | 4 => cases hk; exact h6
    | 5 => cases hk; exact h5
    | _ + 6 => cases hk
def lCls (R : List (List Int)) (N : Int) (t e : Nat) : LAnn := lCnt N.toNat t (fun _ => True) (fun k => [(e, .mapp (clsG R N.toNat k))]) []
def tabC (calls : Calling) (R : List (List Int)) (F : Nat) (loops : List (Nat × PLoop)) : Tab := ⟨tyTab, [], calls, loops, [kVis R F], [], [], []⟩
def sCls : Sp := fun | [.r N l] => some ([validF N l = true, L9 l], .mp (wF (setF l) N.toNat)) | _ => none
def kCls (nm : List (Option AV)) : Nat × (List MBlk → List SV → Option AR) := (52, genF EL nm [.r] sCls)
theorem row_len {n : Nat} {f : Pf} (h : n ≤ 64) (j : Nat) : (nthD [] (sucL n f) j).length ≤ 64 := by
  by_cases hj : j < n
  · rw [nthD_sucL hj, List.length_map]; exact Nat.le_trans (rowL_len f j n) h
  · rw [nthD_out _ _ _ (by simp; omega)]; simp
theorem tabCOk {calls : Calling} {R : List (List Int)} {F : Nat} {loops : List (Nat × PLoop)} (h : ∀ p ∈ calls, CallOk Try.prog [] p.1 p.2) (hb : CallOkB Try.prog [] 54 (kVisF R F)) : TabOk Try.prog (tabC calls R F loops) := ⟨mixed, tys, ints, fun _ _ hf => h _ (assoc_mem hf), fun g G hf => (by
  have h2 := assoc_mem hf
  rcases List.mem_singleton.1 h2 with h3
  cases h3
  exact hb)⟩
theorem v52_eq (N : Int) (l : List Pq) : (fnVc (tabC [kSuc [none, none, some (.rs (sucL N.toNat (setF l)))]] (sucL N.toNat (setF l)) (N.toNat + 1) [(0, .of (lCls (sucL N.toNat (setF l)) N 12 4))]) Try.f52 [rlV N 0 l] [arP l] (resMap (wF (setF l) N.toNat))) = (l.length = l.length ∧
 validF N
 (psK l) =
 true ∧
 (psK l).length ≤
 (1099511627776 : Nat) ∧
 sucL N.toNat
 (setF
 (psK l)) =
 sucL N.toNat (setF l) ∧
 ∃ (x : PUnit),
 (∃ (x : Nat),
 (x ≤ N.toNat ∧ True) ∧
 ((0 : Int) = (↑x : Int) ∧ True) ∧
 (∀ (x_1 y : Int), false = clsG (sucL N.toNat (setF l)) N.toNat x x_1 y) ∧ True) ∧
 ∀ (x_1 : Nat),
 x_1 ≤ N.toNat ∧ True →
 (decide ((↑x_1 : Int) < N) = true →
 (AV.rs (sucL N.toNat (setF l))).len = (sucL N.toNat (setF l)).length ∧
 (AV.rs (sucL N.toNat (setF l))).len = (sucL N.toNat (setF l)).length ∧
 ((fun (j : Nat) => (nthD [] (sucL N.toNat (setF l)) j).length) = fun (j : Nat) =>
 (nthD [] (sucL N.toNat (setF l)) j).length) ∧
 ((fun (j i : Nat) => nthD (0 : Int) (nthD [] (sucL N.toNat (setF l)) j) i) =
 fun (j i : Nat) => nthD (0 : Int) (nthD [] (sucL N.toNat (setF l)) j) i) ∧
 ((0 : Int) ≤ (↑x_1 : Int) ∧ (↑x_1 : Int) < (↑(sucL N.toNat (setF l)).length : Int)) ∧
 unv (sucL N.toNat (setF l)).length (clsG (sucL N.toNat (setF l)) N.toNat x_1)
 (↑x_1 : Int) <
 N.toNat + (1 : Nat) ∧
 ∃ (x_2 : Nat),
 (x_2 ≤ N.toNat ∧ True) ∧
 ((PLoop.of (lCls (sucL N.toNat (setF l)) N (12 : Nat) (4 : Nat))).ann x).mu x_2 <
 ((PLoop.of (lCls (sucL N.toNat (setF l)) N (12 : Nat) (4 : Nat))).ann x).mu
 x_1 ∧
 ((N = N ∧ l.length = l.length) ∧
 True ∧
 True ∧
 True ∧
 True ∧
 (N = N ∧ l.length = l.length) ∧
 (AV.rs (sucL N.toNat (setF l))).len =
 (AV.rs (sucL N.toNat (setF l))).len ∧
 True ∧
 True ∧
 N = N ∧
 IntKind.i64.wrap ((↑x_1 : Int) + (1 : Int)) = (↑x_2 : Int) ∧
 True) ∧
 (l.length = l.length ∧
 (∀ (j : Nat),
 j < l.length →
 (nthD ((0 : Int), (0 : Int)) l j).fst =
 (nthD ((0 : Int), (0 : Int)) l j).fst) ∧
 (∀ (j : Nat),
 j < l.length →
 (nthD ((0 : Int), (0 : Int)) l j).snd =
 (nthD ((0 : Int), (0 : Int)) l j).snd) ∧
 True) ∧
 (N = N ∧ l.length = l.length) ∧
 ((sucL N.toNat (setF l)).length = (AV.rs (sucL N.toNat (setF l))).len ∧
 ((∀ (j : Nat),
 j < (AV.rs (sucL N.toNat (setF l))).len →
 (nthD [] (sucL N.toNat (setF l)) j).length =
 (nthD [] (sucL N.toNat (setF l)) j).length) ∧
 (∀ (j : Nat),
 j < (AV.rs (sucL N.toNat (setF l))).len →
 ∀ (i : Nat),
 i < (nthD [] (sucL N.toNat (setF l)) j).length →
 nthD (0 : Int) (nthD [] (sucL N.toNat (setF l)) j) i =
 nthD (0 : Int) (nthD [] (sucL N.toNat (setF l)) j) i) ∧
 True) ∧
 True) ∧
 (sucL N.toNat (setF l)).length = (AV.rs (sucL N.toNat (setF l))).len ∧
 (∀ (x y : Int),
 dfs (sucL N.toNat (setF l)) (↑x_1 : Int) (N.toNat + (1 : Nat))
 (↑x_1 : Int) (clsG (sucL N.toNat (setF l)) N.toNat x_1) x y =
 clsG (sucL N.toNat (setF l)) N.toNat x_2 x y) ∧
 True ∧ True) ∧
 (decide ((↑x_1 : Int) < N) = false →
 ∀ (x y : Int), clsG (sucL N.toNat (setF l)) N.toNat x_1 x y = wF (setF l) N.toNat x y)) := by kernel_rfl
theorem v52 (N : Int) (l : List Pq) (hv : validF N l = true) (hl : L9 l) : fnVc (tabC [kSuc [none, none, some (.rs (sucL N.toNat (setF l)))]] (sucL N.toNat (setF l)) (N.toNat + 1) [(0, .of (lCls (sucL N.toNat (setF l)) N 12 4))]) Try.f52 [rlV N 0 l] [arP l] (resMap (wF (setF l) N.toNat)) := by
  rw [v52_eq]
  simp only [eq_self, true_and, and_true, implies_true, imp_self, psK_eq, mkN_ps, mkN_rs, mkN_self, mkN_len, PLoop.of, lCnt, lCls, AV.len, sucL_len]
  obtain ⟨h1, h2, h3⟩ := validF_iff.1 hv
  refine ⟨hv, hl, (), ⟨0, by simp, rfl, fun x y => rfl⟩, fun k hk => ⟨fun hlt => ?_, fun hlt x y => ?_⟩⟩
  · have hlt2 := of_decide_eq_true hlt
    refine ⟨⟨by omega, by omega⟩, ?_, k + 1, by omega, by omega, wrS (n := 64) (by omega) (by omega), fun x y => rfl⟩
    have := unv_le (n := N.toNat) (s := clsG (sucL N.toNat (setF l)) N.toNat k) (a := (k : Int))
    omega
  · have hlt2 := of_decide_eq_false hlt
    have e : k = N.toNat := by omega
    rw [e, clsG_eq (rowsOf_suc (sup_set hv))]
theorem fo52 : fnOk Try.prog 52 := ⟨Try.f52, Try.func52, by kernel_rfl, by kernel_rfl⟩
theorem c52 : CallOk Try.prog [] 52 (genF EL [] [.r] sCls) := by
  refine genOk (fn := Try.f52) Try.func52 fo52 (fun av pre rv h => ?_) (fun av pre rv h hp => ?_)
  · unfold sCls at h; split at h <;> cases h
    exact ⟨rfl, fun t a e => by cases e⟩
  · unfold sCls at h; split at h <;> cases h
    rename_i N l
    have hv : validF N l = true := hp _ (.head _)
    obtain ⟨h1, h2, h3⟩ := validF_iff.1 hv
    refine ⟨_, tabCOk (mOne (n53 _) mNil) (b54 (f := setF l) ?_ (row_len (by omega)) _), rfl, rfl, v52 _ _ hv (hp _ (.tail _ (.head _)))⟩
    rw [sucL_len]
    exact rowsOf_suc (sup_set hv)
theorem n52 (nm : List (Option AV)) : CallOk Try.prog [] 52 (genF EL nm [.r] sCls) := genNm c52
end Go.Proofs.Ytiokmglajigngaa
