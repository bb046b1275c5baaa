/-
  A symbolic executor for the model's code: what a symbolic value and a known block say of the model's values and worlds.
-/
import Derived.Test.YtiokmglajigngaaSu1
import Derived.MapKept
import Derived.Great.BuildSlice
import Derived.ChangeKeysEq
namespace Go.Proofs.Ytiokmglajigngaa.Sx
open Go Go.RowKit
universe u
section basics
variable {α : Type u}
theorem nth_eq (l : List α) (n : Nat) : nth l n = l[n]? := by
  induction l generalizing n with
  | nil => simp [nth]
  | cons x r ih => cases n <;> simp [nth, ih]
theorem length_setAt (l : List α) (n : Nat) (y : α) : (setAt l n y).length = l.length := by
  induction l generalizing n with
  | nil => rfl
  | cons x r ih => cases n <;> simp [setAt, ih]
theorem get_setAt (l : List α) (n : Nat) (y : α) (j : Nat) : (setAt l n y)[j]? = if j = n ∧ n < l.length then some y else l[j]? := by
  induction l generalizing n j with
  | nil => simp [setAt]
  | cons x r ih =>
    cases n with
    | zero => cases j <;> simp [setAt]
    | succ n =>
      cases j with
      | zero => simp [setAt]
      | succ j => simp [setAt, ih]
theorem assoc_mem {l : List (Nat × α)} {n : Nat} {x : α} (h : assoc l n = some x) : (n, x) ∈ l := by
  induction l with
  | nil => simp [assoc] at h
  | cons p r ih =>
    obtain ⟨k, y⟩ := p
    simp only [assoc] at h
    cases hk : Nat.beq k n
    · simp only [hk, cond_false] at h; exact List.mem_cons_of_mem _ (ih h)
    · simp only [hk, cond_true, Option.some.injEq] at h
      have := Nat.eq_of_beq_eq_true hk
      subst this; subst h; exact List.mem_cons_self
theorem takeN_eq {n : Nat} {l r : List α} (h : takeN n l = some r) : r = l.take n ∧ n ≤ l.length := by
  induction n generalizing l r with
  | zero => simp only [takeN, Option.some.injEq] at h; subst h; simp
  | succ n ih =>
    cases l with
    | nil => simp [takeN] at h
    | cons x l =>
      simp only [takeN, Option.map_eq_some_iff] at h
      obtain ⟨q, hq, rfl⟩ := h
      obtain ⟨rfl, hl⟩ := ih hq
      simp; omega
theorem dropN_eq (n : Nat) (l : List α) : dropN n l = l.drop n := by
  induction n generalizing l with
  | zero => rfl
  | succ n ih => cases l <;> simp [dropN, ih]
theorem writeAt_eq {cs : List α} {n : Nat} {vs r : List α} (h : writeAt cs n vs = some r) :
    r.length = cs.length ∧ n + vs.length ≤ cs.length ∧ ∀ j, r[j]? = if n ≤ j ∧ j < n + vs.length then vs[j - n]? else cs[j]? := by
  induction cs generalizing n vs r with
  | nil => cases n <;> cases vs <;> simp [writeAt] at h; subst h; simp
  | cons c cs ih =>
    cases n with
    | zero =>
      cases vs with
      | nil => simp [writeAt] at h; subst h; refine ⟨rfl, by simp, fun j => ?_⟩; simp; try omega
      | cons v vs =>
        simp only [writeAt, Option.map_eq_some_iff] at h
        obtain ⟨q, hq, rfl⟩ := h
        obtain ⟨h1, h2, h3⟩ := ih hq
        refine ⟨by simp [h1], by simp at h2 ⊢; omega, fun j => ?_⟩
        cases j with
        | zero => simp
        | succ j => simp [h3 j]
    | succ n =>
      have h' : (writeAt cs n vs).map (c :: ·) = some r := by cases vs <;> exact h
      simp only [Option.map_eq_some_iff] at h'
      obtain ⟨q, hq, rfl⟩ := h'
      obtain ⟨h1, h2, h3⟩ := ih hq
      refine ⟨by simp [h1], by simp; omega, fun j => ?_⟩
      cases j with
      | zero => simp
      | succ j =>
        simp only [List.getElem?_cons_succ, h3 j]
        congr 1
        · simp; omega
        · congr 1; omega
end basics
theorem memN_iff {n : Nat} {l : List Nat} : memN n l = true ↔ n ∈ l := by
  induction l with
  | nil => simp [memN]
  | cons x r ih => simp [memN, ih]
theorem kEq_iff {k k' : IntKind} : kEq k k' = true ↔ k = k' := by cases k <;> cases k' <;> simp [kEq]
theorem add_add' (a : Addr) (i j : Nat) : (a.add i).add j = a.add (i + j) := by
  unfold Addr.add
  by_cases hi : i = 0 <;> by_cases hj : j = 0 <;> simp [hi, hj, Nat.add_assoc]
theorem block_add (a : Addr) (n : Nat) : (a.add n).block = a.block := by unfold Addr.add; split <;> rfl
/-- Which block (or slice) each entry is; and the blocks that do not turn any more. -/
structure Env where
  f : Nat → Option (Option Addr × Nat)
  S : Nat → Prop
  T : Nat → Prop
  X : Nat → Nat → Prop
instance : CoeFun Env fun _ => Nat → Option (Option Addr × Nat) := ⟨Env.f⟩
/-- The blocks that rows may lie in. -/
def Env.R (ρ : Env) : Nat → Prop := fun g => ρ.S g ∧ ρ.T g
/-- A symbolic value stands for a value. -/
inductive Den (ρ : Env) : SV → Value → Prop
  | tt : Den ρ .tt (.bool true)
  | ff : Den ρ .ff (.bool false)
  | nilsl : Den ρ .nilsl (.slice none 0 0)
  | nilptr : Den ρ .nilptr (.pointer none)
  | nilmap : Den ρ .nilmap (.map none)
  | dead (x : Value) : Den ρ .dead x
  | b (x : Bool) : Den ρ (.b x) (.bool x)
  | i (k : IntKind) (n : Int) : Den ρ (.i k n) (.int k n)
  | ptr {r off : Nat} {a : Addr} {c : Nat} : ρ r = some (some a, c) → Den ρ (.ptr r off) (.pointer (some (a.add off)))
  | pix {r sz ix off : Nat} {a : Addr} {c : Nat} : ρ r = some (some a, c) → Den ρ (.pix r sz ix off) (.pointer (some (a.add (ix * sz + off))))
  | sl {r n : Nat} {A : Option Addr} {c : Nat} : ρ r = some (A, c) → (0 < n → A ≠ none) → Den ρ (.sl r n) (.slice A n c)
  | sub {r sz lo n : Nat} {A : Option Addr} {c : Nat} {A' : Option Addr} {c' : Nat} : ρ r = some (A, c) → (0 < n → A ≠ none ∧ A' = A.map (·.add (lo * sz))) → Den ρ (.sub r sz lo n) (.slice A' n c')
  | mp {r g c : Nat} : ρ r = some (some ⟨g, 0, none⟩, c) → Den ρ (.mp r) (.map (some g))
  | agg {xs : List SV} {vs : List Value} : vs.length = xs.length → (∀ (j : Nat) (x : SV) (v : Value), xs[j]? = some x → vs[j]? = some v → Den ρ x v) → Den ρ (.agg xs) (.agg vs.toArray)
  | tup {xs : List SV} {vs : List Value} : vs.length = xs.length → (∀ (j : Nat) (x : SV) (v : Value), xs[j]? = some x → vs[j]? = some v → Den ρ x v) → Den ρ (.tup xs) (.tuple vs.toArray)
  | fn {f : Nat} {xs : List SV} {vs : List Value} : vs.length = xs.length → (∀ (j : Nat) (x : SV) (v : Value), xs[j]? = some x → vs[j]? = some v → Den ρ x v) → Den ρ (.fn f xs) (.func (.func f) #[] vs.toArray)
  | v (x : Value) : Den ρ (.v x) x
def DenL (ρ : Env) (xs : List SV) (vs : List Value) : Prop := vs.length = xs.length ∧ ∀ (j : Nat) (x : SV) (v : Value), xs[j]? = some x → vs[j]? = some v → Den ρ x v
theorem DenL.nil (ρ : Env) : DenL ρ [] [] := ⟨rfl, fun j x v h => by simp at h⟩
theorem DenL.cons {ρ : Env} {x : SV} {xs : List SV} {v : Value} {vs : List Value} (h : Den ρ x v) (hs : DenL ρ xs vs) : DenL ρ (x :: xs) (v :: vs) :=
  ⟨by simp [hs.1], fun j y u hy hu => by
    cases j with
    | zero => simp at hy hu; subst hy; subst hu; exact h
    | succ j => simp at hy hu; exact hs.2 j y u hy hu⟩
theorem DenL.inv {ρ : Env} {x : SV} {xs : List SV} {ws : List Value} (h : DenL ρ (x :: xs) ws) : ∃ v vs, ws = v :: vs ∧ Den ρ x v ∧ DenL ρ xs vs := by
  obtain ⟨h1, h2⟩ := h
  cases ws with
  | nil => simp at h1
  | cons v vs => exact ⟨v, vs, rfl, h2 0 x v rfl rfl, by simpa using h1, fun j y u hy hu => h2 (j + 1) y u (by simpa using hy) (by simpa using hu)⟩
theorem DenL.inv_nil {ρ : Env} {ws : List Value} (h : DenL ρ [] ws) : ws = [] := List.eq_nil_of_length_eq_zero (by simpa using h.1)
theorem DenL.get {ρ : Env} {xs : List SV} {vs : List Value} (h : DenL ρ xs vs) {j : Nat} {x : SV} (hx : xs[j]? = some x) : ∃ v, vs[j]? = some v ∧ Den ρ x v := by
  have hj : j < xs.length := (List.getElem?_eq_some_iff.1 hx).1
  have hj' : j < vs.length := by rw [h.1]; exact hj
  exact ⟨vs[j], List.getElem?_eq_getElem hj', h.2 j x _ hx (List.getElem?_eq_getElem hj')⟩
section inversion
variable {ρ : Env} {v : Value}
theorem Den.tt_inv (h : Den ρ .tt v) : v = .bool true := by cases h; rfl
theorem Den.ff_inv (h : Den ρ .ff v) : v = .bool false := by cases h; rfl
theorem Den.b_inv {x : Bool} (h : Den ρ (.b x) v) : v = .bool x := by cases h; rfl
theorem Den.i_inv {k : IntKind} {n : Int} (h : Den ρ (.i k n) v) : v = .int k n := by cases h; rfl
theorem Den.ptr_inv {r off : Nat} (h : Den ρ (.ptr r off) v) : ∃ a c, ρ r = some (some a, c) ∧ v = .pointer (some (a.add off)) := by cases h with | ptr h => exact ⟨_, _, h, rfl⟩
theorem Den.pix_inv {r sz ix off : Nat} (h : Den ρ (.pix r sz ix off) v) : ∃ a c, ρ r = some (some a, c) ∧ v = .pointer (some (a.add (ix * sz + off))) := by cases h with | pix h => exact ⟨_, _, h, rfl⟩
theorem Den.sl_inv {r n : Nat} (h : Den ρ (.sl r n) v) : ∃ A c, ρ r = some (A, c) ∧ v = .slice A n c ∧ (0 < n → A ≠ none) := by cases h with | sl h h' => exact ⟨_, _, h, rfl, h'⟩
theorem Den.sub_inv {r sz lo n : Nat} (h : Den ρ (.sub r sz lo n) v) : ∃ A c A' c', ρ r = some (A, c) ∧ v = .slice A' n c' ∧ (0 < n → A ≠ none ∧ A' = A.map (·.add (lo * sz))) := by cases h with | sub h h' => exact ⟨_, _, _, _, h, rfl, h'⟩
theorem Den.agg_inv {xs : List SV} (h : Den ρ (.agg xs) v) : ∃ vs, v = .agg vs.toArray ∧ DenL ρ xs vs := by cases h with | agg h1 h2 => exact ⟨_, rfl, h1, h2⟩
theorem Den.tup_inv {xs : List SV} (h : Den ρ (.tup xs) v) : ∃ vs, v = .tuple vs.toArray ∧ DenL ρ xs vs := by cases h with | tup h1 h2 => exact ⟨_, rfl, h1, h2⟩
theorem Den.bOf {x : SV} {b : Bool} (h : Den ρ x v) (hb : Sx.bOf x = some b) : v = .bool b := by
  cases x <;> simp [Sx.bOf] at hb <;> subst hb <;> cases h <;> rfl
end inversion
theorem ofV_den (ρ : Env) (x : Value) : Den ρ (ofV x) x := by
  unfold ofV
  split <;> first | exact .tt | exact .ff | exact .i _ _ | exact .nilsl | exact .nilptr | exact .nilmap | exact .v _
/-- Two environments that agree on what a value refers to. -/
theorem Den.mono {ρ σ : Env} {x : SV} {v : Value} (h : Den ρ x v) (hle : ∀ r y, ρ r = some y → σ r = some y) : Den σ x v := by
  induction h with
  | tt => exact .tt
  | ff => exact .ff
  | nilsl => exact .nilsl
  | nilptr => exact .nilptr
  | nilmap => exact .nilmap
  | dead x => exact .dead x
  | b x => exact .b x
  | i k n => exact .i k n
  | ptr h => exact .ptr (hle _ _ h)
  | pix h => exact .pix (hle _ _ h)
  | sl h h' => exact .sl (hle _ _ h) h'
  | sub h h' => exact .sub (hle _ _ h) h'
  | mp h => exact .mp (hle _ _ h)
  | agg h1 _ ih => exact .agg h1 ih
  | tup h1 _ ih => exact .tup h1 ih
  | fn h1 _ ih => exact .fn h1 ih
  | v x => exact .v x
theorem DenL.mono {ρ σ : Env} {xs : List SV} {vs : List Value} (h : DenL ρ xs vs) (hle : ∀ r y, ρ r = some y → σ r = some y) : DenL σ xs vs :=
  ⟨h.1, fun j x v hx hv => (h.2 j x v hx hv).mono hle⟩
theorem refsL_get {xs : List SV} {l : List Nat} (h : refsL xs l = false) {j : Nat} {x : SV} (hx : xs[j]? = some x) : x.refs l = false := by
  induction xs generalizing j with
  | nil => simp at hx
  | cons y r ih =>
    simp only [refsL, Bool.or_eq_false_iff] at h
    cases j with
    | zero => simp at hx; subst hx; exact h.1
    | succ j => exact ih h.2 (by simpa using hx)
/-- Environments that agree but at the entries of l. -/
theorem Den.but {ρ σ : Env} {x : SV} {v : Value} {l : List Nat} (h : Den ρ x v) (hr : x.refs l = false) (hle : ∀ r y, r ∉ l → ρ r = some y → σ r = some y) : Den σ x v := by
  have nm : ∀ {r : Nat}, memN r l = false → r ∉ l := fun h hm => by rw [memN_iff.2 hm] at h; cases h
  induction h with
  | tt => exact .tt
  | ff => exact .ff
  | nilsl => exact .nilsl
  | nilptr => exact .nilptr
  | nilmap => exact .nilmap
  | dead x => exact .dead x
  | b x => exact .b x
  | i k n => exact .i k n
  | ptr h => simp only [SV.refs] at hr; exact .ptr (hle _ _ (nm hr) h)
  | pix h => simp only [SV.refs] at hr; exact .pix (hle _ _ (nm hr) h)
  | sl h h' => simp only [SV.refs] at hr; exact .sl (hle _ _ (nm hr) h) h'
  | sub h h' => simp only [SV.refs] at hr; exact .sub (hle _ _ (nm hr) h) h'
  | mp h => simp only [SV.refs] at hr; exact .mp (hle _ _ (nm hr) h)
  | agg h1 _ ih => simp only [SV.refs] at hr; exact .agg h1 fun j x v hx hv => ih j x v hx hv (refsL_get hr hx)
  | tup h1 _ ih => simp only [SV.refs] at hr; exact .tup h1 fun j x v hx hv => ih j x v hx hv (refsL_get hr hx)
  | fn h1 _ ih => simp only [SV.refs] at hr; exact .fn h1 fun j x v hx hv => ih j x v hx hv (refsL_get hr hx)
  | v x => exact .v x
theorem Den.kill {ρ σ : Env} {x : SV} {v : Value} {l : List Nat} (h : Den ρ x v) (hle : ∀ r y, r ∉ l → ρ r = some y → σ r = some y) : Den σ (killSV l x) v := by
  unfold killSV
  cases hr : x.refs l
  · exact h.but hr hle
  · exact .dead v
theorem length_killCells (l : List Nat) (xs : List SV) : (killCells l xs).length = xs.length := by
  induction xs with
  | nil => rfl
  | cons x r ih => simp [killCells, ih]
theorem get_killCells (l : List Nat) (xs : List SV) (j : Nat) : (killCells l xs)[j]? = (xs[j]?).map (killSV l) := by
  induction xs generalizing j with
  | nil => simp [killCells]
  | cons x r ih => cases j <;> simp [killCells, ih]
theorem DenL.kill {ρ σ : Env} {xs : List SV} {vs : List Value} {l : List Nat} (h : DenL ρ xs vs) (hle : ∀ r y, r ∉ l → ρ r = some y → σ r = some y) : DenL σ (killCells l xs) vs := by
  refine ⟨by rw [length_killCells]; exact h.1, fun j x v hx hv => ?_⟩
  rw [get_killCells, Option.map_eq_some_iff] at hx
  obtain ⟨y, hy, rfl⟩ := hx
  exact (h.2 j y v hy hv).kill hle
theorem ltL_get {xs : List SV} {n : Nat} (h : ltL xs n = true) {j : Nat} {x : SV} (hx : xs[j]? = some x) : x.ltB n = true := by
  induction xs generalizing j with
  | nil => simp at hx
  | cons y r ih =>
    simp only [ltL, Bool.and_eq_true] at h
    cases j with
    | zero => simp at hx; subst hx; exact h.1
    | succ j => exact ih h.2 (by simpa using hx)
theorem ltB_lies {x : SV} {n : Nat} : ∀ {ρ σ : Env} {v : Value}, x.ltB n = true → (∀ r y, r < n → ρ r = some y → σ r = some y) → Den ρ x v → Den σ x v := by
  intro ρ σ v hx hle h
  induction h with
  | tt => exact .tt
  | ff => exact .ff
  | nilsl => exact .nilsl
  | nilptr => exact .nilptr
  | nilmap => exact .nilmap
  | dead x => exact .dead x
  | b x => exact .b x
  | i k n => exact .i k n
  | ptr h => simp only [SV.ltB] at hx; exact .ptr (hle _ _ (by simpa [Nat.blt_eq] using hx) h)
  | pix h => simp only [SV.ltB] at hx; exact .pix (hle _ _ (by simpa [Nat.blt_eq] using hx) h)
  | sl h h' => simp only [SV.ltB] at hx; exact .sl (hle _ _ (by simpa [Nat.blt_eq] using hx) h) h'
  | sub h h' => simp only [SV.ltB] at hx; exact .sub (hle _ _ (by simpa [Nat.blt_eq] using hx) h) h'
  | mp h => simp only [SV.ltB] at hx; exact .mp (hle _ _ (by simpa [Nat.blt_eq] using hx) h)
  | agg h1 _ ih => simp only [SV.ltB] at hx; exact .agg h1 fun j x v hj hv => ih j x v hj hv (ltL_get hx hj)
  | tup h1 _ ih => simp only [SV.ltB] at hx; exact .tup h1 fun j x v hj hv => ih j x v hj hv (ltL_get hx hj)
  | fn h1 _ ih => simp only [SV.ltB] at hx; exact .fn h1 fun j x v hj hv => ih j x v hj hv (ltL_get hx hj)
  | v x => exact .v x
/-- What a column says of a cell. S: the blocks that do not turn. -/
def colDen (S : Nat → Prop) (W : World) : Col → Nat → Value → Prop
  | .int k g, j, v => v = .int k (g j)
  | .bool g, j, v => v = .bool (g j)
  | .rows len gs, j, v => ∃ A c, v = .slice A (len j) c ∧ len j ≤ c ∧ (0 < len j → ∃ a, A = some a ∧ S a.block ∧ ∀ i, i < len j → ∀ k g, gs[k]? = some g → W.cell? (a.add (i * gs.length + k)) = some (.int .i64 (g j i)))
  | .any, _, _ => True
theorem colDen_den {S : Nat → Prop} {W : World} (ρ : Env) {c : Col} {j : Nat} {v : Value} (h : colDen S W c j v) : Den ρ (colAt c j) v := by
  cases c <;> simp only [colDen] at h
  · subst h; exact .i _ _
  · subst h; exact .b _
  · exact .dead _
  · exact .dead _
theorem colDen_later {S S' : Nat → Prop} {W W' : World} {c : Col} {j : Nat} {v : Value} (h : colDen S W c j v) (hS : ∀ g, S g → S' g) (hW : ∀ g, S g → W'.heap[g]? = W.heap[g]?) : colDen S' W' c j v := by
  cases c <;> simp only [colDen] at h ⊢
  · exact h
  · exact h
  · obtain ⟨A, c, h1, hc, h2⟩ := h
    refine ⟨A, c, h1, hc, fun h0 => ?_⟩
    obtain ⟨a, ha, hs, h3⟩ := h2 h0
    refine ⟨a, ha, hS _ hs, fun i hi k g hg => ?_⟩
    rw [World.cell?_of_block (w := W) (hW _ (by rw [block_add]; exact hs))]
    exact h3 i hi k g hg
theorem get_colsAt (cols : List Col) (j k : Nat) : (colsAt cols j)[k]? = (cols[k]?).map (colAt · j) := by
  induction cols generalizing k with
  | nil => simp [colsAt]
  | cons c r ih => cases k <;> simp [colsAt, ih]
/-- A map's entries: a key once. -/
def mapV : Option IntKind → Int → Value
  | some k, v => .int k v
  | none, v => .bool (v != 0)
def MapiIs (es : Array MapEntry) (clock : Nat) (k : IntKind) (k' : Option IntKind) (f : Int → Option Int) : Prop :=
  MapKept.Stamped es clock ∧ (∀ x ∈ es.toList, ∃ n v, x.key = .int k n ∧ x.val = mapV k' v ∧ f n = some v) ∧ (∀ n v, f n = some v → ∃ x ∈ es.toList, x.key = .int k n)
def MappIs (es : Array MapEntry) (clock : Nat) (f : Int → Int → Bool) : Prop :=
  MapKept.Stamped es clock ∧ (∀ x ∈ es.toList, ∃ n m, x.key = .agg #[.int .i64 n, .int .i64 m] ∧ x.val = .bool true ∧ f n m = true) ∧ (∀ n m, f n m = true → ∃ x ∈ es.toList, x.key = .agg #[.int .i64 n, .int .i64 m])
/-- A map's iterator: what is still to come. -/
def IterIs (es : Array MapEntry) (clock since : Nat) (seen : Array Nat) (c0 : Nat) (left : Int → Int → Bool) : Prop :=
  MapKept.Stamped es clock ∧ (∀ x ∈ es.toList, x.born < since) ∧ since ≤ c0 ∧ since ≤ clock ∧ (∀ x ∈ es.toList, ∃ n m, x.key = .agg #[.int .i64 n, .int .i64 m] ∧ x.val = .bool true ∧ left n m = !seen.contains x.born) ∧ (∀ n m, left n m = true → ∃ x ∈ es.toList, x.key = .agg #[.int .i64 n, .int .i64 m])
/-- One row of a slice of rows that are the run's own. -/
def RowAt (ρ : Env) (W : World) (r e' : Nat) (gs : List (Nat → Nat → Int)) (len : Nat → Nat) (vs : List Value) (j : Nat) : Prop :=
  ∃ B d us, vs[j]? = some (.slice B (len j) d) ∧ W.ownsRow 0 e' gs.length (.slice B (len j) d) (len j) us ∧ (∀ b, B = some b → ρ.X r b.block) ∧ ∀ i, i < len j → ∀ k g, gs[k]? = some g → us[i * gs.length + k]? = some (.int .i64 (g j i))
/-- What is known of entry r: its kind says what lies in memory. What is the run's own is not among the blocks that do not turn. -/
def BR (ρ : Env) (W : World) (r : Nat) : MBlk → Prop
  | .cells cs => ∃ g t vs c, ρ r = some (some ⟨g, 0, none⟩, c) ∧ ¬ ρ.S g ∧ W.heap[g]? = some (.cells (List.toArray vs) t (0, 0)) ∧ DenL ρ cs vs
  | .old cs => ∃ a c, ρ r = some (some a, c) ∧ ρ.S a.block ∧ ∀ j x, cs[j]? = some x → ∃ v, W.cell? (a.add j) = some v ∧ Den ρ x v
  | .arr n cols => ∃ A c, ρ r = some (A, c) ∧ n ≤ c ∧ (0 < n → ∃ a, A = some a ∧ ρ.S a.block ∧ ∀ j, j < n → ∀ k col, cols[k]? = some col → ∃ v, W.cell? (a.add (j * cols.length + k)) = some v ∧ colDen ρ.R W col j v)
  | .oarr e n cols => ∃ A c vs, ρ r = some (A, c) ∧ W.ownsRow 0 e cols.length (.slice A n c) n vs ∧ (∀ a, A = some a → ¬ ρ.S a.block) ∧ 0 < cols.length ∧ ∀ j, j < n → ∀ k col, cols[k]? = some col → ∃ v, vs[j * cols.length + k]? = some v ∧ colDen ρ.R W col j v
  | .mapi k k' f => ∃ g es clock c, ρ r = some (some ⟨g, 0, none⟩, c) ∧ ¬ ρ.S g ∧ W.heap[g]? = some (.map es clock) ∧ MapiIs es clock k k' f
  | .mapp f => ∃ g es clock c, ρ r = some (some ⟨g, 0, none⟩, c) ∧ ¬ ρ.S g ∧ W.heap[g]? = some (.map es clock) ∧ MappIs es clock f
  | .fmapp f => ∃ g es clock c, ρ r = some (some ⟨g, 0, none⟩, c) ∧ ρ.S g ∧ W.heap[g]? = some (.map es clock) ∧ MappIs es clock f
  | .iterp left cur => ∃ g b since seen c0 es clock c, ρ r = some (some ⟨g, 0, none⟩, c) ∧ ¬ ρ.S g ∧ W.heap[g]? = some (.mapIter (some b) since seen c0) ∧ ρ.S b ∧ W.heap[b]? = some (.map es clock) ∧ IterIs es clock since seen c0 left ∧
      (∀ p, cur = some p → clock = c0 ∧ ∃ x ∈ es.toList, seen.back? = some x.born ∧ x.key = .agg #[.int .i64 p.1, .int .i64 p.2] ∧ x.val = .bool true)
  | .orows e e' n hole link len gs => ∃ A c vs, ρ r = some (A, c) ∧ W.ownsRow 0 e 1 (.slice A n c) n vs ∧ (∀ a, A = some a → ¬ ρ.S a.block) ∧ 0 < gs.length ∧ (∀ j, j < n → hole ≠ some j → RowAt ρ W r e' gs len vs j) ∧
      (∀ j j' B l d B' l' d', j < n → j' < n → hole ≠ some j → hole ≠ some j' → vs[j]? = some (.slice (some B) l d) → vs[j']? = some (.slice (some B') l' d') → B.block = B'.block → j = j') ∧
      ∀ j q, hole = some j → link = some q → ∃ B d, ρ q = some (B, d) ∧ vs[j]? = some (.slice B (len j) d) ∧ (0 < len j → B ≠ none)
  | .gone => True
def ownOf : MBlk → Bool
  | .cells _ => true
  | .oarr _ _ _ => true
  | .mapi _ _ _ => true
  | .mapp _ => true
  | .iterp _ _ => true
  | .orows _ _ _ _ _ _ _ => true
  | _ => false
/-- These blocks hold what they held; the streams are as they were; no block has gone. -/
structure Keeps (K : Nat → Prop) (w w' : World) : Prop where
  os : w'.os = w.os
  tape : w'.tape = w.tape
  output : w'.output = w.output
  size : w.heap.size ≤ w'.heap.size
  block : ∀ k, K k → w'.heap[k]? = w.heap[k]?
theorem Keeps.refl (K : Nat → Prop) (w : World) : Keeps K w w := ⟨rfl, rfl, rfl, Nat.le_refl _, fun _ _ => rfl⟩
theorem Keeps.trans {K : Nat → Prop} {a b c : World} (h : Keeps K a b) (k : Keeps K b c) : Keeps K a c :=
  ⟨k.os.trans h.os, k.tape.trans h.tape, k.output.trans h.output, Nat.le_trans h.size k.size, fun i hi => (k.block i hi).trans (h.block i hi)⟩
theorem Keeps.of_below {K : Nat → Prop} {B : Nat} {a b : World} (h : Below B a b) (hK : ∀ g, K g → g < B) : Keeps K a b := ⟨h.os, h.tape, h.output, h.size, fun k hk => h.block k (hK k hk)⟩
theorem Keeps.below {B : Nat} {a b : World} (h : Keeps (fun g => g < B) a b) : Below B a b := ⟨h.os, h.tape, h.output, h.size, fun k hk => h.block k hk⟩
theorem Keeps.of_grown {K : Nat → Prop} {a b : World} {row : Option Nat} (h : a.grownBy b row) (hK : ∀ g, K g → g < a.heap.size ∧ row ≠ some g) : Keeps K a b :=
  ⟨h.os, h.tape, h.output, h.size, fun k hk => h.block k (hK k hk).1 (fun e => (hK k hk).2 e.symm)⟩
/-- What a run keeps to: the blocks that must not turn; those that rows may lie in from the start. -/
structure Lim where
  keep : Nat → Prop
  row : Nat → Prop
/-- Memory. -/
structure MR (K : Lim) (w0 W : World) (ρ : Env) (m : List MBlk) : Prop where
  sub : ∀ g, K.keep g → ρ.S g
  rows : ∀ g, ρ.R g → K.row g ∨ ¬ K.keep g
  hS : ∀ g, ρ.S g → g < W.heap.size
  below : Keeps K.keep w0 W
  blk : ∀ r k, m[r]? = some k → ρ r ≠ none → BR ρ W r k
  dom : ∀ r, ρ r ≠ none → r < m.length
  xlt : ∀ r g, ρ.X r g → r < m.length ∧ ¬ ρ.S g ∧ g < W.heap.size
  xsep : ∀ r s g, ρ.X r g → ρ.X s g → r = s
  xown : ∀ r g s k a c, ρ.X r g → m[s]? = some k → ownOf k = true → ρ s = some (some a, c) → a.block ≠ g
  sep : ∀ r s k l a b c d, m[r]? = some k → m[s]? = some l → ownOf k = true → ownOf l = true → ρ r = some (some a, c) → ρ s = some (some b, d) → a.block = b.block → r = s
theorem ownsRow_later {w w' : World} {B e sz n : Nat} {v : Value} {xs : List Value} (h : w.ownsRow B e sz v n xs) (hb : Below w.heap.size w w') : w'.ownsRow B e sz v n xs := by
  obtain ⟨h1, h2⟩ := h
  refine ⟨h1, h2.imp id ?_⟩
  rintro ⟨g, cap, cur, rfl, hg, hh, r⟩
  have hlt : g < w.heap.size := (Array.getElem?_eq_some_iff.1 hh).1
  exact ⟨g, cap, cur, rfl, hg, (hb.block g hlt).trans hh, r⟩
/-- New blocks, and nothing that was there has turned. -/
theorem BR.later {ρ : Env} {w w' : World} {r : Nat} {k : MBlk} (hS : ∀ g, ρ.S g → g < w.heap.size) (h : BR ρ w r k) (hb : Below w.heap.size w w') : BR ρ w' r k := by
  have hc : ∀ {col : Col} {j : Nat} {v : Value}, colDen ρ.R w col j v → colDen ρ.R w' col j v := fun h => colDen_later h (fun _ h => h) (fun g hg => hb.block g (hS g hg.1))
  cases k with
  | cells cs =>
    obtain ⟨g, t, vs, c, h1, h2, h3, h4⟩ := h
    exact ⟨g, t, vs, c, h1, h2, (hb.block g (Array.getElem?_eq_some_iff.1 h3).1).trans h3, h4⟩
  | old cs =>
    obtain ⟨a, c, h1, h2, h3⟩ := h
    refine ⟨a, c, h1, h2, fun j x hx => ?_⟩
    obtain ⟨v, hv, hd⟩ := h3 j x hx
    exact ⟨v, (hb.cell (p := a.add j) (by rw [block_add]; exact hS _ h2)).trans hv, hd⟩
  | arr n cols =>
    obtain ⟨A, c, h1, hn0, h2⟩ := h
    refine ⟨A, c, h1, hn0, fun hn => ?_⟩
    obtain ⟨a, ha, hlt, h3⟩ := h2 hn
    refine ⟨a, ha, hlt, fun j hj k col hk => ?_⟩
    obtain ⟨v, hv, hd⟩ := h3 j hj k col hk
    exact ⟨v, (hb.cell (p := a.add _) (by rw [block_add]; exact hS _ hlt)).trans hv, hc hd⟩
  | oarr e n cols =>
    obtain ⟨A, c, vs, h1, h2, h3, h4, h5⟩ := h
    refine ⟨A, c, vs, h1, ownsRow_later h2 hb, h3, h4, fun j hj k col hk => ?_⟩
    obtain ⟨v, hv, hd⟩ := h5 j hj k col hk
    exact ⟨v, hv, hc hd⟩
  | mapi k k' f =>
    obtain ⟨g, es, clock, c, h1, h2, h3, h4⟩ := h
    exact ⟨g, es, clock, c, h1, h2, (hb.block g (Array.getElem?_eq_some_iff.1 h3).1).trans h3, h4⟩
  | mapp f =>
    obtain ⟨g, es, clock, c, h1, h2, h3, h4⟩ := h
    exact ⟨g, es, clock, c, h1, h2, (hb.block g (Array.getElem?_eq_some_iff.1 h3).1).trans h3, h4⟩
  | fmapp f =>
    obtain ⟨g, es, clock, c, h1, h2, h3, h4⟩ := h
    exact ⟨g, es, clock, c, h1, h2, (hb.block g (Array.getElem?_eq_some_iff.1 h3).1).trans h3, h4⟩
  | iterp f cur =>
    obtain ⟨g, b, since, seen, c0, es, clock, c, h1, h2, h3, h4, h5, h6⟩ := h
    exact ⟨g, b, since, seen, c0, es, clock, c, h1, h2, (hb.block g (Array.getElem?_eq_some_iff.1 h3).1).trans h3, h4, (hb.block b (Array.getElem?_eq_some_iff.1 h5).1).trans h5, h6⟩
  | orows e e' n hole link len gs =>
    obtain ⟨A, c, vs, h1, h2, h3, h4, h5, h6⟩ := h
    refine ⟨A, c, vs, h1, ownsRow_later h2 hb, h3, h4, fun j hj hh => ?_, h6⟩
    obtain ⟨B, d, us, e1, e2, e3, e4⟩ := h5 j hj hh
    exact ⟨B, d, us, e1, ownsRow_later e2 hb, e3, e4⟩
  | gone => trivial
/-- Which block an entry of the run's own lies in. -/
theorem own_lt {ρ : Env} {W : World} {r : Nat} {k : MBlk} {a : Addr} {c : Nat} (h : BR ρ W r k) (ho : ownOf k = true) (hr : ρ r = some (some a, c)) : ¬ ρ.S a.block ∧ a.block < W.heap.size := by
  cases k <;> simp [ownOf] at ho
  · obtain ⟨g, t, vs, c', h1, h2, h3, _⟩ := h
    rw [hr] at h1
    simp only [Option.some.injEq, Prod.mk.injEq] at h1
    obtain ⟨rfl, _⟩ := h1
    exact ⟨h2, (Array.getElem?_eq_some_iff.1 h3).1⟩
  · obtain ⟨A, c', vs, h1, ⟨_, h2⟩, h3, _⟩ := h
    rw [hr] at h1
    simp only [Option.some.injEq, Prod.mk.injEq] at h1
    obtain ⟨rfl, _⟩ := h1
    rcases h2 with ⟨h2, _⟩ | ⟨g, cap, cur, h2, hg, hh, _⟩
    · cases h2
    · injection h2 with h2
      injection h2 with h2
      subst h2
      exact ⟨h3 _ rfl, (Array.getElem?_eq_some_iff.1 hh).1⟩
  · obtain ⟨g, es, clock, c', h1, h2, h3, _⟩ := h
    rw [hr] at h1
    simp only [Option.some.injEq, Prod.mk.injEq] at h1
    obtain ⟨rfl, _⟩ := h1
    exact ⟨h2, (Array.getElem?_eq_some_iff.1 h3).1⟩
  · obtain ⟨g, es, clock, c', h1, h2, h3, _⟩ := h
    rw [hr] at h1
    simp only [Option.some.injEq, Prod.mk.injEq] at h1
    obtain ⟨rfl, _⟩ := h1
    exact ⟨h2, (Array.getElem?_eq_some_iff.1 h3).1⟩
  · obtain ⟨g, b, since, seen, c0, es, clock, c', h1, h2, h3, _⟩ := h
    rw [hr] at h1
    simp only [Option.some.injEq, Prod.mk.injEq] at h1
    obtain ⟨rfl, _⟩ := h1
    exact ⟨h2, (Array.getElem?_eq_some_iff.1 h3).1⟩
  · obtain ⟨A, c', vs, h1, ⟨_, h2⟩, h3, _⟩ := h
    rw [hr] at h1
    simp only [Option.some.injEq, Prod.mk.injEq] at h1
    obtain ⟨rfl, _⟩ := h1
    rcases h2 with ⟨h2, _⟩ | ⟨g, cap, cur, h2, hg, hh, _⟩
    · cases h2
    · injection h2 with h2
      injection h2 with h2
      subst h2
      exact ⟨h3 _ rfl, (Array.getElem?_eq_some_iff.1 hh).1⟩
/-- A richer environment: more entries are named; more blocks do not turn, but not this entry's own one. -/
theorem BR.mono {ρ σ : Env} {w : World} {r : Nat} {k : MBlk} (h : BR ρ w r k) (hle : ∀ r y, ρ r = some y → σ r = some y) (hS : ∀ g, ρ.S g → σ.S g) (hT : ∀ g, ρ.T g → σ.T g) (hno : ∀ a c, ownOf k = true → ρ r = some (some a, c) → ¬ σ.S a.block) (hX : ∀ g, ρ.X r g → σ.X r g) : BR σ w r k := by
  have hc : ∀ {col : Col} {j : Nat} {v : Value}, colDen ρ.R w col j v → colDen σ.R w col j v := fun h => colDen_later h (fun g hg => ⟨hS g hg.1, hT g hg.2⟩) (fun _ _ => rfl)
  cases k with
  | cells cs =>
    obtain ⟨g, t, vs, c, h1, h2, h3, h4⟩ := h
    exact ⟨g, t, vs, c, hle _ _ h1, hno _ _ rfl h1, h3, h4.mono hle⟩
  | old cs =>
    obtain ⟨a, c, h1, h2, h3⟩ := h
    refine ⟨a, c, hle _ _ h1, hS _ h2, fun j x hx => ?_⟩
    obtain ⟨v, hv, hd⟩ := h3 j x hx
    exact ⟨v, hv, hd.mono hle⟩
  | arr n cols =>
    obtain ⟨A, c, h1, hn0, h2⟩ := h
    refine ⟨A, c, hle _ _ h1, hn0, fun hn => ?_⟩
    obtain ⟨a, ha, hlt, h3⟩ := h2 hn
    refine ⟨a, ha, hS _ hlt, fun j hj k col hk => ?_⟩
    obtain ⟨v, hv, hd⟩ := h3 j hj k col hk
    exact ⟨v, hv, hc hd⟩
  | oarr e n cols =>
    obtain ⟨A, c, vs, h1, h2, h3, h4, h5⟩ := h
    refine ⟨A, c, vs, hle _ _ h1, h2, fun a ha => hno a c rfl (by rw [h1, ha]), h4, fun j hj k col hk => ?_⟩
    obtain ⟨v, hv, hd⟩ := h5 j hj k col hk
    exact ⟨v, hv, hc hd⟩
  | mapi k k' f =>
    obtain ⟨g, es, clock, c, h1, h2, h3, h4⟩ := h
    exact ⟨g, es, clock, c, hle _ _ h1, hno _ _ rfl h1, h3, h4⟩
  | mapp f =>
    obtain ⟨g, es, clock, c, h1, h2, h3, h4⟩ := h
    exact ⟨g, es, clock, c, hle _ _ h1, hno _ _ rfl h1, h3, h4⟩
  | fmapp f =>
    obtain ⟨g, es, clock, c, h1, h2, h3, h4⟩ := h
    exact ⟨g, es, clock, c, hle _ _ h1, hS _ h2, h3, h4⟩
  | iterp f cur =>
    obtain ⟨g, b, since, seen, c0, es, clock, c, h1, h2, h3, h4, h5, h6⟩ := h
    exact ⟨g, b, since, seen, c0, es, clock, c, hle _ _ h1, hno _ _ rfl h1, h3, hS _ h4, h5, h6⟩
  | orows e e' n hole link len gs =>
    obtain ⟨A, c, vs, h1, h2, h3, h4, h5, h6, h7⟩ := h
    refine ⟨A, c, vs, hle _ _ h1, h2, fun a ha => hno a c rfl (by rw [h1, ha]), h4, fun j hj hh => ?_, h6, fun j q hj hq => by obtain ⟨B, d, e1, e2⟩ := h7 j q hj hq; exact ⟨B, d, hle _ _ e1, e2⟩⟩
    obtain ⟨B, d, us, e1, e2, e3, e4⟩ := h5 j hj hh
    exact ⟨B, d, us, e1, e2, fun b hb => hX _ (e3 b hb), e4⟩
  | gone => trivial
/-- The blocks of the new entries. -/
structure News (σ : Env) (W W' : World) (base : Nat) (new : List MBlk) : Prop where
  blk : ∀ k b, new[k]? = some b → σ (base + k) ≠ none → BR σ W' (base + k) b
  fresh : ∀ k b a c, new[k]? = some b → ownOf b = true → σ (base + k) = some (some a, c) → W.heap.size ≤ a.block
  sep : ∀ k l b d a c x y, new[k]? = some b → new[l]? = some d → ownOf b = true → ownOf d = true → σ (base + k) = some (some a, x) → σ (base + l) = some (some c, y) → a.block = c.block → k = l
theorem News.nil (σ : Env) (W W' : World) (base : Nat) : News σ W W' base [] := ⟨fun k b hk => by simp at hk, fun k b a c hk => by simp at hk, fun k l b d a c x y hk => by simp at hk⟩
/-- More blocks that do not turn: new ones alone. -/
structure SGrow (ρ σ : Env) (W W' : World) : Prop where
  le : ∀ g, ρ.S g → σ.S g
  new : ∀ g, σ.S g → ρ.S g ∨ (W.heap.size ≤ g ∧ g < W'.heap.size)
  leT : ∀ g, ρ.T g → σ.T g
  newR : ∀ g, σ.R g → ρ.R g ∨ W.heap.size ≤ g
  eqX : σ.X = ρ.X
theorem SGrow.refl (ρ : Env) (W W' : World) : SGrow ρ ρ W W' := ⟨fun _ h => h, fun _ h => .inl h, fun _ h => h, fun _ h => .inl h, rfl⟩
/-- What an operation that changes no known memory leaves. -/
def StepPost (ρ : Env) (W : World) (base : Nat) (sv : SV) (new : List MBlk) (v : Value) (W' : World) : Prop :=
  Below W.heap.size W W' ∧ ∃ σ : Env, (∀ r, r < base ∨ base + new.length ≤ r → σ r = ρ r) ∧ SGrow ρ σ W W' ∧ Den σ sv v ∧ News σ W W' base new
/-- Memory behind such an operation, where the new entries come at the end. -/
theorem MR.grow {K : Lim} {w0 W W' : World} {ρ σ : Env} {m new : List MBlk} (h : MR K w0 W ρ m) (hb : Below W.heap.size W W') (hσ : ∀ r, r < m.length ∨ m.length + new.length ≤ r → σ r = ρ r)
    (hg : SGrow ρ σ W W') (hn : News σ W W' m.length new) : MR K w0 W' σ (m ++ new) := by
  have hle : ∀ r y, ρ r = some y → σ r = some y := fun r y hr => by
    rw [hσ r (.inl (h.dom r (by rw [hr]; simp)))]; exact hr
  have lo : ∀ {r k}, r < m.length → (m ++ new)[r]? = some k → m[r]? = some k := fun {r k} hr hk => by rwa [List.getElem?_append_left hr] at hk
  have hi : ∀ {r k}, ¬ r < m.length → (m ++ new)[r]? = some k → new[r - m.length]? = some k := fun {r k} hr hk => by rwa [List.getElem?_append_right (by omega)] at hk
  refine ⟨fun g hg' => hg.1 g (h.sub g hg'), fun g hg' => ?_, fun g hg' => ?_, h.below.trans (.of_below hb (fun g hk => h.hS g (h.sub g hk))), fun r k hk hr => ?_, fun r hr => ?_, fun r g hx => ?_, fun r s g h1 h2 => ?_, fun r g s k a c hx hk ho hsa => ?_, ?_⟩
  · rcases hg.newR g hg' with h1 | h1
    · exact h.rows g h1
    · exact .inr fun hk => by have := h.hS g (h.sub g hk); omega
  · rcases hg.2 g hg' with h1 | h1
    · have := h.hS g h1; have := hb.size; omega
    · exact h1.2
  · by_cases hlt : r < m.length
    · rw [hσ r (.inl hlt)] at hr
      have h0 := h.blk r k (lo hlt hk) hr
      refine (h0.later h.hS hb).mono hle hg.1 hg.leT (fun a c ho hra hs => ?_) (fun g hx => by rw [hg.eqX]; exact hx)
      have := own_lt h0 ho hra
      rcases hg.2 _ hs with h1 | h1
      · exact this.1 h1
      · omega
    · have := hn.blk (r - m.length) k (hi hlt hk)
      rw [show m.length + (r - m.length) = r by omega] at this
      exact this hr
  · by_cases hlt : r < m.length + new.length
    · simpa using hlt
    · rw [hσ r (.inr (by omega))] at hr
      have := h.dom r hr
      omega
  · rw [hg.eqX] at hx
    obtain ⟨h1, h2, h3⟩ := h.xlt r g hx
    refine ⟨by simp; omega, fun hs => ?_, Nat.lt_of_lt_of_le h3 hb.size⟩
    rcases hg.2 g hs with e | e
    · exact h2 e
    · omega
  · rw [hg.eqX] at h1 h2
    exact h.xsep r s g h1 h2
  · rw [hg.eqX] at hx
    obtain ⟨h1, h2, h3⟩ := h.xlt r g hx
    by_cases hlt : s < m.length
    · exact h.xown r g s k a c hx (lo hlt hk) ho (by rw [← hσ s (.inl hlt)]; exact hsa)
    · have := hn.fresh (s - m.length) k a c (hi hlt hk) ho (by rw [show m.length + (s - m.length) = s by omega]; exact hsa)
      omega
  · intro r s k l a b c d hk hl hok hol hra hsb hab
    by_cases hr : r < m.length <;> by_cases hs : s < m.length
    · exact h.sep r s k l a b c d (lo hr hk) (lo hs hl) hok hol (by rw [← hσ r (.inl hr)]; exact hra) (by rw [← hσ s (.inl hs)]; exact hsb) hab
    · have e1 := own_lt (h.blk r k (lo hr hk) (by rw [← hσ r (.inl hr), hra]; simp)) hok (by rw [← hσ r (.inl hr)]; exact hra)
      have e2 := hn.fresh (s - m.length) l b d (hi hs hl) hol (by rw [show m.length + (s - m.length) = s by omega]; exact hsb)
      omega
    · have e1 := own_lt (h.blk s l (lo hs hl) (by rw [← hσ s (.inl hs), hsb]; simp)) hol (by rw [← hσ s (.inl hs)]; exact hsb)
      have e2 := hn.fresh (r - m.length) k a c (hi hr hk) hok (by rw [show m.length + (r - m.length) = r by omega]; exact hra)
      omega
    · have := hn.sep (r - m.length) (s - m.length) k l a b c d (hi hr hk) (hi hs hl) hok hol (by rw [show m.length + (r - m.length) = r by omega]; exact hra) (by rw [show m.length + (s - m.length) = s by omega]; exact hsb) hab
      omega
end Go.Proofs.Ytiokmglajigngaa.Sx
namespace Go.Proofs.Ytiokmglajigngaa.Sx
open Go Go.RowKit
def svIs : SV → Value → Bool
  | .dead, _ => true
  | .tt, .bool true => true
  | .ff, .bool false => true
  | .b x, .bool y => x == y
  | .i k n, .int k' n' => kEq k k' && (n == n')
  | .nilsl, .slice none 0 0 => true
  | .nilptr, .pointer none => true
  | .nilmap, .map none => true
  | _, _ => false
def svIsL : List SV → List Value → Bool
  | [], [] => true
  | x :: xs, v :: vs => svIs x v && svIsL xs vs
  | _, _ => false
theorem svIs_den {x : SV} {v : Value} (ρ : Env) (h : svIs x v = true) : Den ρ x v := by
  unfold svIs at h
  split at h <;> first
    | exact .dead _
    | exact .tt
    | exact .ff
    | exact .nilsl
    | exact .nilptr
    | exact .nilmap
    | (simp only [beq_iff_eq] at h; subst h; exact .b _)
    | (simp only [Bool.and_eq_true, beq_iff_eq, kEq_iff] at h; obtain ⟨rfl, rfl⟩ := h; exact .i _ _)
    | cases h
theorem svIsL_den {xs : List SV} {vs : List Value} (ρ : Env) (h : svIsL xs vs = true) : DenL ρ xs vs := by
  induction xs generalizing vs with
  | nil => cases vs <;> simp [svIsL] at h; exact DenL.nil ρ
  | cons x xs ih =>
    cases vs with
    | nil => simp [svIsL] at h
    | cons v vs =>
      simp only [svIsL, Bool.and_eq_true] at h
      exact DenL.cons (svIs_den ρ h.1) (ih h.2)
/-- A plain type for '==' on parts: a number's of this kind, or a boolean's; one cell. -/
def plainT (P : Program) (t : Nat) (k : Option IntKind) : Bool :=
  decide ((P.info? t).map (·.size) = some 1) && (match P.underlying t, k with
  | some (.int k), some k' => kEq k k'
  | some .bool, none => true
  | _, _ => false)
def plainFields (P : Program) : List Field → List (Option IntKind) → Nat → Bool
  | [], [], _ => true
  | f :: fs, k :: ks, n => decide (f.name ≠ "_") && Nat.beq f.offset n && plainT P f.type k && plainFields P fs ks (n + 1)
  | _, _, _ => false
def plainElems (P : Program) (e : Nat) : List (Option IntKind) → Bool
  | [] => true
  | k :: ks => plainT P e k && plainElems P e ks
/-- Which fields are aggregates. -/
def faggChk (P : Program) : List Field → List Bool → Bool
  | [], [] => true
  | f :: fs, b :: bs => (match P.underlying f.type with
    | some (.struct _) => b
    | some (.array _ _) => b
    | some _ => !b
    | none => false) && faggChk P fs bs
  | _, _ => false
/-- What the program says of a type, against a row of the table. -/
def tiChk (P : Program) (t : Nat) (ti : TI) : Bool :=
  (match P.info? t with
    | some i => Nat.beq i.size ti.size && Nat.beq i.bytes ti.bytes && (match ti.zero with
      | [] => true
      | z => match i.zero with
        | some v => svIsL z v.cells.toList
        | none => false)
    | none => false) &&
  (match P.underlying t with
    | some (.struct fs) => Nat.beq ti.kind 1 && (match fs.toList.mapM (fun f => (P.info? f.type).map fun i => (f.offset, i.size)) with
      | some l => decide (l = ti.offs)
      | none => false) && (match ti.eqk with
        | some ks => !(P.stoodInHeld t) && !(P.eqGuardType P.depth t) && plainFields P fs.toList ks 0
        | none => true)
    | some (.array n e) => Nat.beq ti.kind 2 && Nat.beq n ti.len && Nat.beq e ti.elem && (match ti.eqk with
        | some ks => !(P.eqGuardType P.depth t) && plainElems P e ks && Nat.beq ks.length n && !(ks.isEmpty)
        | none => true)
    | some (.slice e) => Nat.beq ti.kind 3 && ti.eqk.isNone && Nat.beq e ti.elem && decide ((P.info? e).map (·.size) = some ti.len)
    | some (.map k e) => Nat.beq ti.kind 4 && ti.eqk.isNone && Nat.beq ti.elem k && Nat.beq ti.len e
    | some (.int k) => Nat.beq ti.kind 0 && ti.eqk.isNone && (match ti.ik with | some k' => kEq k k' | none => true)
    | some .bool => Nat.beq ti.kind 5 && ti.eqk.isNone && ti.ik.isNone
    | some (.pointer _) => Nat.beq ti.kind 0 && ti.eqk.isNone && ti.ik.isNone
    | some (.func _ _ _) => Nat.beq ti.kind 0 && ti.eqk.isNone && ti.ik.isNone
    | _ => false)
/-- A number's zero value. -/
def intChk (P : Program) (t : Nat) (ti : TI) : Bool :=
  (match ti.ik with
  | some k => (match P.info? t with
    | some i => (match i.zero with
      | some (.int q (.ofNat 0)) => kEq q k
      | _ => false)
    | none => false)
  | none => true) &&
  (match ti.fagg with
  | [] => true
  | l => match P.underlying t with
    | some (.struct fs) => faggChk P fs.toList l
    | _ => false) &&
  (bif Nat.beq ti.kind 5 then (match P.info? t with
    | some i => (match i.zero with
      | some (.bool false) => true
      | _ => false)
    | none => false) else true)
/-- The function can be called. -/
def fnOk (P : Program) (f : Nat) : Prop := ∃ fn, P.funcs[f]? = some fn ∧ (fn.name == "runtime.NumGoroutine") = false ∧ fn.body.isNone = false
/-- The package-level variables' entries. -/
def GlobAt (G : List (Nat × Nat)) (ρ : Env) : Prop := ∀ g r, assoc G g = some r → ∃ c, ρ r = some (some ⟨g, 0, none⟩, c)
structure CallOk (P : Program) (G : List (Nat × Nat)) (f : Nat) (F : List MBlk → List SV → Option AR) : Prop where
  fn : fnOk P f
  ok : ∀ (ρ : Env) (W : World) (m : List MBlk) (vs : List SV) (xs : List Value) (ar : AR), GlobAt G ρ → (∀ g, ρ.S g → g < W.heap.size) → (∀ r k, m[r]? = some k → ρ r ≠ none → BR ρ W r k) →
    (∀ r, m.length ≤ r → r < m.length + ar.new.length → ρ r = none) → DenL ρ vs xs → F m vs = some ar → (∀ p ∈ ar.pre, p) →
    Calls P f xs.toArray W (fun e W' => ∃ v, e = .returned v ∧ StepPost ρ W m.length ar.sv ar.new v W')
/-- What an operation that changes known memory leaves. -/
def BPost (K : Lim) (w0 : World) (ρ : Env) (m : List MBlk) (b : BRes) (v : Value) (W' : World) : Prop :=
  ∃ σ : Env, (∀ r y, r ∉ b.kill → ρ r = some y → σ r = some y) ∧ Den σ b.sv v ∧ MR K w0 W' σ (updMem (killMem b.kill m) b.upd ++ b.new)
/-- A function that changes what its caller knows. -/
structure CallOkB (P : Program) (G : List (Nat × Nat)) (f : Nat) (F : List MBlk → List SV → Option BRes) : Prop where
  fn : fnOk P f
  ok : ∀ (K : Lim) (w0 : World) (ρ : Env) (W : World) (m : List MBlk) (vs : List SV) (xs : List Value) (b : BRes), GlobAt G ρ → MR K w0 W ρ m → DenL ρ vs xs → F m vs = some b → (∀ p ∈ b.pre, p) →
    Calls P f xs.toArray W (fun e W' => ∃ v, e = .returned v ∧ BPost K w0 ρ m b v W')
structure TabOk (P : Program) (T : Tab) : Prop where
  mixed : P.follows .mixedOrders = true
  types : ∀ t ti, assoc T.types t = some ti → tiChk P t ti = true
  ints : ∀ t ti, assoc T.types t = some ti → intChk P t ti = true
  calls : ∀ f F, assoc T.calls f = some F → CallOk P T.globals f F
  callsB : ∀ f F, assoc T.callsB f = some F → CallOkB P T.globals f F
structure GlobOk (T : Tab) (ρ : Env) : Prop where
  gl : ∀ g r, assoc T.globals g = some r → ∃ c, ρ r = some (some ⟨g, 0, none⟩, c)
  pin : ∀ p, p ∈ T.pins → ρ p.1 = some p.2
theorem mem_pinIx {p : List (Nat × (Option Addr × Nat))} {r : Nat} : r ∈ pinIx p ↔ ∃ x, (r, x) ∈ p := by
  induction p with
  | nil => simp [pinIx]
  | cons x p ih =>
    obtain ⟨i, a⟩ := x
    simp only [pinIx, List.mem_cons, ih]
    constructor
    · rintro (rfl | ⟨y, h⟩)
      · exact ⟨a, .inl rfl⟩
      · exact ⟨y, .inr h⟩
    · rintro ⟨y, h | h⟩
      · simp only [Prod.mk.injEq] at h; exact .inl h.1
      · exact .inr ⟨y, h⟩
theorem mem_protOf {G : List (Nat × Nat)} {p : List (Nat × (Option Addr × Nat))} {r : Nat} : r ∈ protOf G p ↔ (∃ g, (g, r) ∈ G) ∨ (∃ x, (r, x) ∈ p) := by
  induction G with
  | nil => simp [protOf, mem_pinIx]
  | cons x G ih =>
    obtain ⟨i, a⟩ := x
    simp only [protOf, List.mem_cons, ih]
    constructor
    · rintro (rfl | ⟨g, h⟩ | h)
      · exact .inl ⟨i, .inl rfl⟩
      · exact .inl ⟨g, .inr h⟩
      · exact .inr h
    · rintro (⟨g, h | h⟩ | h)
      · simp only [Prod.mk.injEq] at h; exact .inl h.2
      · exact .inr (.inl ⟨g, h⟩)
      · exact .inr (.inr h)
theorem glob_prot {T : Tab} {g r : Nat} (h : assoc T.globals g = some r) : r ∈ prot T := mem_protOf.2 (.inl ⟨g, assoc_mem h⟩)
theorem pin_prot {T : Tab} {p : Nat × (Option Addr × Nat)} (h : p ∈ T.pins) : p.1 ∈ prot T := mem_protOf.2 (.inr ⟨p.2, h⟩)
def sat (a : Act) (c : List (Nat × Bool)) : Prop := ∀ q w, (q, w) ∈ c → a.tmps.getD q undef = .bool w
theorem inCh_iff {x : Nat × Bool} {c : List (Nat × Bool)} : inCh x c = true ↔ x ∈ c := by
  induction c with
  | nil => simp [inCh]
  | cons y r ih =>
    simp only [inCh, Bool.or_eq_true, Bool.and_eq_true, beq_iff_eq, ih, List.mem_cons]
    constructor
    · rintro (⟨h1, h2⟩ | h)
      · exact .inl (Prod.ext (Nat.eq_of_beq_eq_true h1) h2)
      · exact .inr h
    · rintro (rfl | h)
      · exact .inl ⟨Nat.beq_refl _, rfl⟩
      · exact .inr h
theorem subCh_sat {a : Act} {d c : List (Nat × Bool)} (h : subCh d c = true) (hc : sat a c) : sat a d := by
  induction d with
  | nil => intro q w hq; cases hq
  | cons x r ih =>
    simp only [subCh, Bool.and_eq_true, inCh_iff] at h
    intro q w hq
    rcases List.mem_cons.1 hq with rfl | hq
    · exact hc _ _ h.1
    · exact ih h.2 q w hq
/-- The slots that operands name stand for what they hold. -/
def OpsOk (ρ : Env) (sl : List Slot) (a : Act) (xs : List Operand) : Prop := ∀ t s, Operand.tmp t ∈ xs → nth sl t = some s → sat a s.ch → Den ρ s.sv (a.tmps.getD t undef)
section
variable {P : Program} {T : Tab} {ρ : Env} {sl : List Slot} {a : Act} {c : List (Nat × Bool)}
theorem useOp_den {x : Operand} {v : SV} (hG : GlobOk T ρ) (h : useOp T sl c x = some v) (hs : OpsOk ρ sl a [x]) (hc : sat a c) : Den ρ v (a.eval x) := by
  unfold useOp at h
  cases hg : getOp T sl x with
  | none => simp [hg] at h
  | some s =>
    simp only [hg] at h
    cases hsub : subCh s.ch c
    · simp [hsub] at h
    · simp only [hsub, cond_true, Option.some.injEq] at h
      subst h
      cases x with
      | tmp t => exact hs t s (by simp) hg (subCh_sat hsub hc)
      | const w => simp only [getOp, Option.some.injEq] at hg; subst hg; exact ofV_den ρ w
      | global g =>
        simp only [getOp] at hg
        split at hg
        · rename_i r hr
          simp only [Option.some.injEq] at hg
          subst hg
          obtain ⟨k, hk⟩ := hG.gl g r hr
          have := Den.ptr (off := 0) hk
          exact this
        · cases hg
      | func f => simp only [getOp, Option.some.injEq] at hg; subst hg; exact .fn rfl (fun j x v hx => by simp at hx)
theorem OpsOk.sub {xs ys : List Operand} (h : OpsOk ρ sl a ys) (hs : ∀ x ∈ xs, x ∈ ys) : OpsOk ρ sl a xs := fun t s ht hn hc => h t s (hs _ ht) hn hc
theorem useAll_den {xs : List Operand} {vs : List SV} (hG : GlobOk T ρ) (h : useAll T sl c xs = some vs) (hs : OpsOk ρ sl a xs) (hc : sat a c) : DenL ρ vs (xs.map a.eval) := by
  induction xs generalizing vs with
  | nil => simp only [useAll, Option.some.injEq] at h; subst h; exact DenL.nil ρ
  | cons x r ih =>
    simp only [useAll] at h
    split at h
    · rename_i v ws hv hws
      simp only [Option.some.injEq] at h
      subst h
      exact DenL.cons (useOp_den hG hv (hs.sub (by simp)) hc) (ih hws (hs.sub fun y hy => List.mem_cons_of_mem _ hy))
    · cases h
theorem useParts_den {xs : List (Nat × Operand)} {vs : List (Nat × SV)} (hG : GlobOk T ρ) (h : useParts T sl c xs = some vs) (hs : OpsOk ρ sl a (xs.map (·.2))) (hc : sat a c) :
    vs.map (·.1) = xs.map (·.1) ∧ DenL ρ (vs.map (·.2)) (xs.map fun p => a.eval p.2) := by
  induction xs generalizing vs with
  | nil => simp only [useParts, Option.some.injEq] at h; subst h; exact ⟨rfl, DenL.nil ρ⟩
  | cons x r ih =>
    obtain ⟨k, x⟩ := x
    simp only [useParts] at h
    split at h
    · rename_i v ws hv hws
      simp only [Option.some.injEq] at h
      subst h
      obtain ⟨h1, h2⟩ := ih hws (hs.sub fun y hy => by simp only [List.map_cons]; exact List.mem_cons_of_mem _ hy)
      exact ⟨by simp [h1], DenL.cons (useOp_den hG hv (hs.sub (by simp)) hc) h2⟩
    · cases h
theorem cellsOf_den {v : SV} {cs : List SV} {x : Value} (h : cellsOf v = some cs) (hd : Den ρ v x) : ∃ vs, x.cells = vs.toArray ∧ DenL ρ cs vs := by
  unfold cellsOf at h
  split at h
  · simp only [Option.some.injEq] at h
    subst h
    obtain ⟨vs, rfl, hvs⟩ := hd.agg_inv
    exact ⟨vs, rfl, hvs⟩
  · cases ho : oneCell v
    · simp [ho] at h
    · simp only [ho, cond_true, Option.some.injEq] at h
      subst h
      refine ⟨[x], ?_, DenL.cons hd (DenL.nil ρ)⟩
      cases hd <;> first | rfl | simp [oneCell] at ho
/-- The operation gives a value and a world of which R holds. -/
def OpTo (P : Program) (a : Act) (o : Oper) (W : World) (R : Value → World → Prop) : Prop :=
  match (execOp a.eval o).run P W with
  | .ok (.value v) W' => R v W'
  | .ok .skip W' => R undef W'
  | .ok (.enter f args) W' => Calls P f args W' (fun e W'' => ∃ v, e = .returned v ∧ R v W'')
  | _ => False
theorem OpTo.mono {o : Oper} {W : World} {R R' : Value → World → Prop} (h : OpTo P a o W R) (hr : ∀ v w, R v w → R' v w) : OpTo P a o W R' := by
  unfold OpTo at *
  split at h
  · exact hr _ _ h
  · exact hr _ _ h
  · exact Calls.mono h fun e w ⟨v, he, hv⟩ => ⟨v, he, hr _ _ hv⟩
  · cases h
theorem OpTo.wp {o : Oper} {W : World} {R : Value → World → Prop} {K : Act → World → Prop} {Q : Exit → Act → World → Prop} (h : OpTo P a o W R) (hk : ∀ v W', R v W' → K (a.put o.dst v) W') : o.wp P a W K Q := by
  unfold OpTo at h
  unfold Oper.wp
  generalize (execOp a.eval o).run P W = r at *
  cases r with
  | ok n W' =>
    cases n <;> simp only [Oper.upon] at h ⊢
    case value v => exact hk _ _ h
    case skip => exact hk _ _ h
    case enter f args => exact Calls.mono h fun e w ⟨v, he, hv⟩ => by subst he; exact hk _ _ hv
  | halt x W' => cases h
theorem OpTo.value {o : Oper} {W W' : World} {R : Value → World → Prop} {v : Value} (h : (execOp a.eval o).run P W = .ok (.value v) W') (hr : R v W') : OpTo P a o W R := by
  unfold OpTo; rw [h]; exact hr
variable {W : World} {m : List MBlk}
theorem StepPost.same {base : Nat} {sv : SV} {v : Value} (h : Den ρ sv v) : StepPost ρ W base sv [] v W :=
  ⟨Below.refl _ _, ρ, fun _ _ => rfl, .refl _ _ _, h, .nil _ _ _ _⟩
/-- The environment with one entry more. -/
def Env.with (ρ : Env) (r : Nat) (x : Option Addr × Nat) : Env := ⟨fun s => if s = r then some x else ρ s, ρ.S, ρ.T, ρ.X⟩
theorem SGrow.with (ρ : Env) (r : Nat) (x : Option Addr × Nat) (W W' : World) : SGrow ρ (ρ.with r x) W W' := ⟨fun _ h => h, fun _ h => .inl h, fun _ h => h, fun _ h => .inl h, rfl⟩
theorem Env.with_R (ρ : Env) (r : Nat) (x : Option Addr × Nat) : (ρ.with r x).R = ρ.R := rfl
theorem Env.with_same (ρ : Env) (r : Nat) (x : Option Addr × Nat) : (ρ.with r x) r = some x := by simp [Env.with]
theorem Env.with_ne (ρ : Env) {r s : Nat} (x : Option Addr × Nat) (h : s ≠ r) : (ρ.with r x) s = ρ s := by simp [Env.with, h]
theorem Env.with_le {ρ : Env} {r : Nat} {x : Option Addr × Nat} (h : ρ r = none) : ∀ s y, ρ s = some y → (ρ.with r x) s = some y := fun s y hs => by
  by_cases e : s = r
  · subst e; rw [h] at hs; cases hs
  · rw [Env.with_ne _ _ e]; exact hs
/-- One new entry. -/
theorem StepPost.one {base : Nat} {sv : SV} {v : Value} {W' : World} {k : MBlk} {x : Option Addr × Nat} (hb : Below W.heap.size W W') (hd : Den (ρ.with base x) sv v) (hk : BR (ρ.with base x) W' base k)
    (hf : ∀ a, x.1 = some a → ownOf k = true → W.heap.size ≤ a.block) : StepPost ρ W base sv [k] v W' := by
  refine ⟨hb, ρ.with base x, fun r hr => ?_, .with _ _ _ _ _, hd, ⟨fun j b hj _ => ?_, fun j b a c hj ho hx => ?_, fun j l b d a c x y hj hl _ _ _ _ _ => ?_⟩⟩
  · rw [Env.with_ne]
    intro e
    simp at hr
    omega
  · have : j = 0 := by have := (List.getElem?_eq_some_iff.1 hj).1; simpa using this
    subst this
    simp at hj
    subst hj
    exact hk
  · have : j = 0 := by have := (List.getElem?_eq_some_iff.1 hj).1; simpa using this
    subst this
    simp at hj
    subst hj
    simp only [Nat.add_zero, Env.with_same, Option.some.injEq] at hx
    exact hf a (by rw [hx]) ho
  · have h1 := (List.getElem?_eq_some_iff.1 hj).1
    have h2 := (List.getElem?_eq_some_iff.1 hl).1
    simp at h1 h2
    omega
/-- A new block of the run's own. -/
theorem StepPost.cells {base : Nat} {cs : List SV} {vs : List Value} {t : Nat} (hS : ∀ g, ρ.S g → g < W.heap.size) (hf : ρ base = none) (h : DenL ρ cs vs) :
    StepPost ρ W base (.ptr base 0) [.cells cs] (.pointer (some ⟨W.heap.size, 0, none⟩)) (W.alloc (.cells vs.toArray t)) := by
  refine StepPost.one (x := (some ⟨W.heap.size, 0, none⟩, 0)) ((Below.refl _ _).alloc (Nat.le_refl _) _) ?_ ?_ ?_
  · have := Den.ptr (ρ := ρ.with base (some ⟨W.heap.size, 0, none⟩, 0)) (off := 0) (Env.with_same ρ base _)
    simpa [Addr.add] using this
  · exact ⟨W.heap.size, t, vs, 0, Env.with_same ρ base _, fun h => absurd (hS _ h) (Nat.lt_irrefl _), heap_alloc_new _ _, h.mono (Env.with_le hf)⟩
  · intro a ha _
    simp only [Option.some.injEq] at ha
    subst ha
    exact Nat.le_refl _
end
section
variable {P : Program} {t : Nat} {ti : TI}
theorem tiChk_info (h : tiChk P t ti = true) : ∃ i, P.info? t = some i ∧ i.size = ti.size ∧ i.bytes = ti.bytes ∧ (ti.zero ≠ [] → ∃ z, i.zero = some z ∧ ∀ ρ, DenL ρ ti.zero z.cells.toList) := by
  unfold tiChk at h
  rw [Bool.and_eq_true] at h
  have h1 := h.1
  cases hi : P.info? t with
  | none => simp [hi] at h1
  | some i =>
    simp only [hi, Bool.and_eq_true] at h1
    obtain ⟨⟨h2, h3⟩, h4⟩ := h1
    refine ⟨i, rfl, Nat.eq_of_beq_eq_true h2, Nat.eq_of_beq_eq_true h3, fun hne => ?_⟩
    cases hz : ti.zero with
    | nil => exact absurd hz hne
    | cons z0 zs =>
      rw [hz] at h4
      simp only at h4
      cases hv : i.zero with
      | none => simp [hv] at h4
      | some v =>
        simp only [hv] at h4
        exact ⟨v, rfl, fun ρ => svIsL_den ρ h4⟩
theorem tiChk_struct (h : tiChk P t ti = true) (hk : ti.kind = 1) : ∃ fs, P.underlying t = some (.struct fs) ∧ fs.toList.mapM (fun f => (P.info? f.type).map fun i => (f.offset, i.size)) = some ti.offs := by
  unfold tiChk at h
  rw [Bool.and_eq_true] at h
  have h2 := h.2
  cases hu : P.underlying t with
  | none => simp [hu] at h2
  | some d =>
    rw [hu] at h2
    cases d <;> simp [hk] at h2
    case struct fs =>
      obtain ⟨h3, _⟩ := h2
      refine ⟨fs, rfl, ?_⟩
      split at h3
      · rename_i l hl
        rw [hl, of_decide_eq_true h3]
      · cases h3
/-- Where '==' is told: a struct or an array of plain cells. -/
theorem tiChk_eq (h : tiChk P t ti = true) {ks : List (Option IntKind)} (hk : ti.eqk = some ks) : P.eqGuardType P.depth t = false ∧
    ((∃ fs, P.underlying t = some (.struct fs) ∧ P.stoodInHeld t = false ∧ plainFields P fs.toList ks 0 = true) ∨ (∃ n e, P.underlying t = some (.array n e) ∧ plainElems P e ks = true ∧ ks.length = n ∧ ks ≠ [])) := by
  unfold tiChk at h
  rw [Bool.and_eq_true] at h
  have h2 := h.2
  cases hu : P.underlying t with
  | none => simp [hu] at h2
  | some d =>
    rw [hu] at h2
    cases d <;> simp [hk] at h2
    case struct fs => exact ⟨h2.2.1.2, .inl ⟨fs, rfl, h2.2.1.1, h2.2.2⟩⟩
    case array n e => exact ⟨h2.2.1.1.1, .inr ⟨n, e, rfl, h2.2.1.1.2, h2.2.1.2, h2.2.2⟩⟩
theorem tiChk_array (h : tiChk P t ti = true) (hk : ti.kind = 2) : P.underlying t = some (.array ti.len ti.elem) := by
  unfold tiChk at h
  rw [Bool.and_eq_true] at h
  have h2 := h.2
  cases hu : P.underlying t with
  | none => simp [hu] at h2
  | some d =>
    rw [hu] at h2
    cases d <;> simp [hk] at h2
    case array n e => rw [h2.1.1, h2.1.2]
theorem tiChk_slice (h : tiChk P t ti = true) (hk : ti.kind = 3) : P.underlying t = some (.slice ti.elem) ∧ (P.info? ti.elem).map (·.size) = some ti.len := by
  unfold tiChk at h
  rw [Bool.and_eq_true] at h
  have h2 := h.2
  cases hu : P.underlying t with
  | none => simp [hu] at h2
  | some d =>
    rw [hu] at h2
    cases d <;> simp [hk] at h2
    case slice e =>
      obtain ⟨⟨_, rfl⟩, h3⟩ := h2
      exact ⟨rfl, by simpa using h3⟩
theorem tiChk_agg (h : tiChk P t ti = true) (w : World) : (isAgg t).run P w = .ok (Nat.beq ti.kind 1 || Nat.beq ti.kind 2) w := by
  unfold tiChk at h
  rw [Bool.and_eq_true] at h
  have h2 := h.2
  cases hu : P.underlying t with
  | none => simp [hu] at h2
  | some d =>
    rw [hu] at h2
    cases d <;> simp at h2 <;> simp [isAgg, run_underlying hu, h2, Nat.beq]
theorem tiChk_kind (h : tiChk P t ti = true) : (∃ d, P.underlying t = some d) := by
  unfold tiChk at h
  rw [Bool.and_eq_true] at h
  have h2 := h.2
  cases hu : P.underlying t with
  | none => simp [hu] at h2
  | some d => exact ⟨d, rfl⟩
theorem tiChk_map (h : tiChk P t ti = true) (hk : ti.kind = 4) : P.underlying t = some (.map ti.elem ti.len) := by
  unfold tiChk at h
  rw [Bool.and_eq_true] at h
  have h2 := h.2
  cases hu : P.underlying t with
  | none => simp [hu] at h2
  | some d =>
    cases d <;> simp [hu, hk] at h2
    rename_i k e
    obtain ⟨⟨_, h3⟩, h4⟩ := h2
    rw [h3, h4]
theorem intChk_zero (h : intChk P t ti = true) {k : IntKind} (hk : ti.ik = some k) (W : World) : (zeroValue t).run P W = .ok (.int k 0) W := by
  unfold intChk at h
  rw [Bool.and_eq_true, Bool.and_eq_true] at h
  replace h := h.1.1
  rw [hk] at h
  simp only at h
  split at h
  · rename_i i hi
    split at h
    · rename_i q hz
      obtain rfl := kEq_iff.1 h
      simp [zeroValue, typeInfo, hi, hz]
    · cases h
  · cases h
theorem intChk_bool (h : intChk P t ti = true) (hk : ti.kind = 5) (W : World) : (zeroValue t).run P W = .ok (.bool false) W := by
  unfold intChk at h
  rw [Bool.and_eq_true] at h
  replace h := h.2
  rw [hk] at h
  simp only [Nat.beq_refl, cond_true] at h
  split at h
  · rename_i i hi
    split at h
    · rename_i hz
      simp [zeroValue, typeInfo, hi, hz]
    · cases h
  · cases h
theorem intChk_fagg (h : intChk P t ti = true) (hk : ti.fagg ≠ []) : ∃ fs, P.underlying t = some (.struct fs) ∧ faggChk P fs.toList ti.fagg = true := by
  unfold intChk at h
  rw [Bool.and_eq_true, Bool.and_eq_true] at h
  replace h := h.1.2
  split at h
  · rename_i e; exact absurd e hk
  · split at h
    · rename_i fs hu
      exact ⟨fs, hu, h⟩
    · cases h
theorem faggChk_get {fs : List Field} {l : List Bool} (h : faggChk P fs l = true) : ∀ (k : Nat) (f : Field) (b : Bool), fs[k]? = some f → l[k]? = some b → ∀ w : World, (isAgg f.type).run P w = .ok b w := by
  induction fs generalizing l with
  | nil => intro k f b hf; simp at hf
  | cons x r ih =>
    intro k f b hf hb w
    cases l with
    | nil => simp at hb
    | cons y l =>
      simp only [faggChk, Bool.and_eq_true] at h
      cases k with
      | zero =>
        simp at hf hb
        subst hf hb
        have h1 := h.1
        cases hu : P.underlying x.type with
        | none => simp [hu] at h1
        | some d =>
          rw [hu] at h1
          cases d <;> simp at h1 <;> simp [isAgg, run_underlying hu, h1]
      | succ k => exact ih h.2 k f b (by simpa using hf) (by simpa using hb) w
theorem tiChk_ik (h : tiChk P t ti = true) {k : IntKind} (hk : ti.ik = some k) (h0 : ti.kind = 0) : P.underlying t = some (.int k) := by
  unfold tiChk at h
  rw [Bool.and_eq_true] at h
  have h2 := h.2
  cases hu : P.underlying t with
  | none => simp [hu] at h2
  | some d =>
    rw [hu] at h2
    cases d <;> simp [hk, h0, kEq_iff] at h2
    case int k' => rw [h2.2]
theorem tiChk_bool (h : tiChk P t ti = true) (h0 : ti.kind = 5) : P.underlying t = some .bool := by
  unfold tiChk at h
  rw [Bool.and_eq_true] at h
  have h2 := h.2
  cases hu : P.underlying t with
  | none => simp [hu] at h2
  | some d =>
    rw [hu] at h2
    cases d <;> simp [h0] at h2
    rfl
end
end Go.Proofs.Ytiokmglajigngaa.Sx
