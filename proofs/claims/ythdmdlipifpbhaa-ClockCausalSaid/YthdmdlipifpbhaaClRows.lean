/-
  The clock layer: slices of numbers, slices of clocks; what Stamps computes.
-/
import Derived.Test.YthdmdlipifpbhaaCl4
namespace Go.Proofs.Ythdmdlipifpbhaa
open Go Go.Proofs.Ythdmdlipifpbhaa.Sx
def inF : List Int → Nat → Int
  | [], _ => 0
  | x :: r, j => bif Nat.beq j 0 then x else inF r (j - 1)
def intArr (l : List Int) : MBlk := .arr l.length [.int .i64 (inF l)]
def mkIG (g : Nat → Int) : Nat → Nat → List Int
  | _, 0 => []
  | j, n + 1 => g j :: mkIG g (j + 1) n
def mkI (n : Nat) (g : Nat → Int) : List Int := mkIG g 0 n
theorem mkIG_len (g : Nat → Int) : ∀ (n j : Nat), (mkIG g j n).length = n := by
  intro n
  induction n with
  | zero => intro j; rfl
  | succ n ih => intro j; simp [mkIG, ih]
@[simp] theorem mkI_len (n : Nat) (g : Nat → Int) : (mkI n g).length = n := mkIG_len g n 0
theorem inF_get : ∀ (l : List Int) (j : Nat) (h : j < l.length), inF l j = l[j] := by
  intro l
  induction l with
  | nil => intro j h; simp at h
  | cons x r ih =>
    intro j h
    cases j with
    | zero => rfl
    | succ j =>
      simp only [inF, Nat.succ_sub_one, List.getElem_cons_succ]
      have : Nat.beq (j + 1) 0 = false := rfl
      rw [this, cond_false]
      exact ih j (by simpa using h)
theorem mkIG_get (g : Nat → Int) : ∀ (n k j : Nat), j < n → (mkIG g k n)[j]? = some (g (k + j)) := by
  intro n
  induction n with
  | zero => intro k j h; omega
  | succ n ih =>
    intro k j h
    cases j with
    | zero => rfl
    | succ j =>
      simp only [mkIG, List.getElem?_cons_succ]
      rw [ih (k + 1) j (by omega)]
      simp [Nat.add_assoc, Nat.add_comm 1]
theorem in_mkI {n : Nat} {g : Nat → Int} {j : Nat} (h : j < n) : inF (mkI n g) j = g j := by
  rw [inF_get _ _ (by simpa using h)]
  have := mkIG_get g n 0 j h
  rw [List.getElem?_eq_getElem (by rw [mkIG_len]; exact h)] at this
  simpa [mkI] using this
@[simp] theorem mkI_self (l : List Int) : mkI l.length (inF l) = l := by
  apply List.ext_getElem
  · simp
  · intro j h1 h2
    rw [← inF_get _ _ h1, in_mkI h2, ← inF_get _ _ h2]
/-- A slice of numbers among the arguments. -/
def ckI (m : List MBlk) : SV → Option (Option Nat × Nat × Nat × List Int)
  | .nilsl => some (none, 0, 0, [])
  | .sl r n => match nth m r with
    | some k => match srcOf k with
      | some (n', [.int .i64 g]) => some (some r, n, n', mkI n g)
      | some (0, [.any]) => some (some r, n, 0, [])
      | _ => none
    | none => none
  | _ => none
theorem ckI_some {m : List MBlk} {x : SV} {q : Option Nat} {n n' : Nat} {l : List Int} (h : ckI m x = some (q, n, n', l)) (hn : n = n') : (∃ r k cols, q = some r ∧ x = .sl r l.length ∧ m[r]? = some k ∧ srcOf k = some (l.length, cols) ∧ colsEq l.length [.int .i64 (inF l)] cols) ∨ (q = none ∧ x = .nilsl ∧ l = []) := by
  subst hn
  unfold ckI at h
  split at h
  · simp only [Option.some.injEq, Prod.mk.injEq] at h
    obtain ⟨rfl, rfl, _, rfl⟩ := h
    exact .inr ⟨rfl, rfl, rfl⟩
  · rename_i q k
    split at h
    · rename_i b hb
      split at h
      · rename_i n0 g hs
        simp only [Option.some.injEq, Prod.mk.injEq] at h
        obtain ⟨rfl, rfl, rfl, rfl⟩ := h
        refine .inl ⟨_, b, [.int .i64 g], rfl, ?_⟩
        rw [mkI_len]
        exact ⟨rfl, by rw [← nth_eq]; exact hb, hs, fun j hj => (in_mkI hj).symm, trivial⟩
      · rename_i hs
        simp only [Option.some.injEq, Prod.mk.injEq] at h
        obtain ⟨rfl, rfl, rfl, rfl⟩ := h
        exact .inl ⟨_, b, _, rfl, rfl, by rw [← nth_eq]; exact hb, hs, ⟨rfl, trivial⟩⟩
      · cases h
    · cases h
  · cases h
theorem ckI_den {m : List MBlk} {x : SV} {q : Option Nat} {n n' i : Nat} {l : List Int} {ρ : Env} {f : Nat → Option Nat} {v : Value} (h : ckI m x = some (q, n, n', l)) (hn : n = n') (hf : f i = q) (hd : Den ρ x v) : Den (pickEnv f ρ) (.sl i l.length) v := by
  rcases ckI_some h hn with ⟨r, k, cols, rfl, rfl, _⟩ | ⟨rfl, rfl, rfl⟩
  · exact hd.slAs hf
  · exact hd.nilAs hf
theorem ckI_kn {m : List MBlk} {x : SV} {q : Option Nat} {n n' i : Nat} {l : List Int} {f : Nat → Option Nat} (h : ckI m x = some (q, n, n', l)) (hn : n = n') (hf : f i = q) : (∃ r k, f i = some r ∧ m[r]? = some k ∧ known k (intArr l)) ∨ (f i = none ∧ ∃ cols, intArr l = .arr 0 cols) := by
  rcases ckI_some h hn with ⟨r, k, cols, rfl, rfl, h1, h2, h3⟩ | ⟨rfl, rfl, rfl⟩
  · exact .inl ⟨r, k, hf, h1, cols, h2, h3⟩
  · exact .inr ⟨hf, _, rfl⟩
theorem knI {m : List MBlk} {x y : SV} {q p : Option Nat} {n n' k k' : Nat} {l b : List Int} (h : ckI m x = some (q, n, n', l)) (hn : n = n') (h2 : ckI m y = some (p, k, k', b)) (hk : k = k') : ∀ i k0, [intArr l, intArr b][i]? = some k0 → (∃ r k, two q p i = some r ∧ m[r]? = some k ∧ known k k0) ∨ (two q p i = none ∧ ∃ cols, k0 = .arr 0 cols) := fun i k0 hi => by
  cases i with
  | zero => simp at hi; subst hi; exact ckI_kn (i := 0) (f := two q p) h hn rfl
  | succ i =>
    cases i with
    | zero => simp at hi; subst hi; exact ckI_kn (i := 1) (f := two q p) h2 hk rfl
    | succ i => simp at hi

/-! ### Slices of clocks -/
def nthC : List (List Tk) → Nat → List Tk
  | [], _ => []
  | x :: r, j => bif Nat.beq j 0 then x else nthC r (j - 1)
def rowsC (L : List (List Tk)) : List Col := [.rows (fun j => (nthC L j).length) [fun j => agF (nthC L j), fun j => ctF (nthC L j)]]
theorem nthC_get : ∀ (l : List (List Tk)) (j : Nat) (h : j < l.length), nthC l j = l[j] := by
  intro l
  induction l with
  | nil => intro j h; simp at h
  | cons x r ih =>
    intro j h
    cases j with
    | zero => rfl
    | succ j =>
      simp only [nthC, Nat.succ_sub_one, List.getElem_cons_succ]
      have : Nat.beq (j + 1) 0 = false := rfl
      rw [this, cond_false]
      exact ih j (by simpa using h)
theorem nthC_lt {l l' : List (List Tk)} {j : Nat} (h : j < l.length) : nthC (l ++ l') j = nthC l j := by
  rw [nthC_get _ _ (by simp; omega), nthC_get _ _ h, List.getElem_append_left h]
theorem nthC_at {l : List (List Tk)} {x : List Tk} : nthC (l ++ [x]) l.length = x := by
  rw [nthC_get _ _ (by simp)]; simp

/-! ### Stamps -/
def okFr (fr : List Int) (i : Nat) : Bool := !(decide (inF fr i < -1) || decide (inF fr i ≥ (i : Int)))
def lastF (ag : List Int) : Nat → Int → Option Int
  | 0 => fun _ => none
  | i + 1 => fun x => bif x == inF ag i then some (i : Int) else lastF ag i x
def baseC (ag : List Int) (L : List (List Tk)) (i : Nat) : List Tk := bif isS (lastF ag i (inF ag i)) then nthC L (val0 (lastF ag i (inF ag i))).toNat else []
def nextC (ag fr : List Int) (L : List (List Tk)) (i : Nat) : List Tk := bif decide (inF fr i ≥ 0) then joinL (baseC ag L i) (nthC L (inF fr i).toNat) else baseC ag L i
def stL (ag fr : List Int) : Nat → List (List Tk)
  | 0 => []
  | i + 1 => stL ag fr i ++ [advL (nextC ag fr (stL ag fr i) i) (inF ag i)]
def frOk (fr : List Int) : Bool := allN fr.length (okFr fr)
def stampsR (ag fr : List Int) : List (List Tk) × Int :=
  bif decide (ag.length = fr.length) then (bif decide (ag.length ≤ 512) then (bif frOk fr then (stL ag fr ag.length, 0) else ([], 1)) else ([], 4)) else ([], 1)
def lFr (fr : List Int) (s : Nat) : LAnn := { X := Nat, inv := fun i => i ≤ fr.length ∧ ∀ i', i' < i → okFr fr i' = true, slots := fun i => [(s, .i .i64 i)], mem := fun _ => [], mu := fun i => fr.length - i }
def lSt (ag fr : List Int) : LAnn := { X := Nat, inv := fun i => i ≤ ag.length, slots := fun i => [(8, .sl 3 (stL ag fr i).length), (44, .i .i64 i)], mem := fun i => [(3, .oarr 23 (stL ag fr i).length (rowsC (stL ag fr i))), (4, .mapi .i64 .i64 (lastF ag i))], mu := fun i => ag.length - i, kill := [3] }
end Go.Proofs.Ythdmdlipifpbhaa
