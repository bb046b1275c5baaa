/-
  The linext layer: relations: what the functions compute, plain facts.
-/
import Derived.Test.YtiokmglajigngaaUBase
namespace Go.Proofs.Ytiokmglajigngaa
open Go Go.Proofs.Ytiokmglajigngaa.Sx
set_option maxRecDepth 100000
set_option linter.unusedSimpArgs false
set_option linter.unusedVariables false
abbrev Pf := Int → Int → Bool
def inR (N : Int) (p : Pq) : Bool := !(decide (p.1 < 0) || decide (p.1 ≥ N) || decide (p.2 < 0) || decide (p.2 ≥ N))
def inB (N : Int) : Bool := !(decide (N < 0) || decide (N > 64))
def validF (N : Int) (l : List Pq) : Bool := inB N && l.all (inR N)
/-- Room for the numbers. -/
def L9 {α : Type} (l : List α) : Prop := l.length ≤ 1099511627776
def setF (l : List Pq) : Pf := fun a b => l.any (fun p => p.1 == a && p.2 == b)
def rowL (f : Pf) (a k : Nat) : List Pq := ((List.range k).filter (fun b : Nat => f a b)).map (fun (b : Nat) => ((a : Int), (b : Int)))
def allL (f : Pf) (n k : Nat) : List Pq := (List.range k).flatMap (fun a => rowL f a n)
def normL (N : Int) (f : Pf) : List Pq := allL f N.toNat N.toNat
/-- The table of a set of pairs. -/
def tblL (n : Nat) (f : Pf) : List Bool := mkN (fun i => f ((i / n : Nat) : Int) ((i % n : Nat) : Int)) (n * n)
/-- The set of a table. -/
def tblF (n : Nat) (h : List Bool) : Pf := fun a b => nthD false h (a * n + b).toNat
def idxF (p : Pq) : List Pq → Int → Int
  | [], _ => -1
  | q :: r, i => bif p.1 == q.1 && p.2 == q.2 then i else idxF p r (i + 1)
def swapL (l : List Pq) : List Pq := l.map (fun p => (p.2, p.1))
def bothF (A : Int) (a : List Pq) (B : Int) (b : List Pq) : Bool := validF A a && validF B b && (A == B)
/-! ### Contracts -/
abbrev Sp := List AV → Option (List Prop × RV)
def relT (N : Int) : Nat → SV := fun k => .agg [.i .i64 N, .sl 0 k]
def sVal : Sp := fun | [.r N l] => some ([L9 l], .pl (.b (validF N l))) | _ => none
def sSet : Sp := fun | [.r _ l] => some ([L9 l], .mp (setF l)) | _ => none
def sNor : Sp := fun | [.i n, .mp f] => some ([0 ≤ n ∧ n ≤ 64], .sl (relT n) (.ps (normL n f))) | _ => none
def sTbl : Sp := fun | [.r N l] => some ([validF N l = true, L9 l], .sl (fun k => .sl 0 k) (.bs (tblL N.toNat (setF l)))) | _ => none
def kVal (nm : List (Option AV)) : Nat × (List MBlk → List SV → Option AR) := (37, genF EL nm [.r] sVal)
def kVal' (nm : List (Option AV)) : Nat × (List MBlk → List SV → Option AR) := (27, genF EL nm [.r] sVal)
def kSet (nm : List (Option AV)) : Nat × (List MBlk → List SV → Option AR) := (56, genF EL nm [.r] sSet)
def kNor (nm : List (Option AV)) : Nat × (List MBlk → List SV → Option AR) := (55, genF EL nm [.i, .mp] sNor)
def kTbl (nm : List (Option AV)) : Nat × (List MBlk → List SV → Option AR) := (51, genF EL nm [.r] sTbl)
/-! ### Loops -/
/-- A loop that counts in slot t up to n; P: what is known; mem. -/
def lCnt (n t : Nat) (P : Nat → Prop) (mem : Nat → List (Nat × MBlk)) (kill : List Nat) : LAnn where
  X := Nat
  inv := fun i => i ≤ n ∧ P i
  slots := fun i => [(t, .i .i64 (i : Int))]
  mem := mem
  mu := fun i => n - i
  kill := kill
def lVal (N : Int) (l : List Pq) (t : Nat) : LAnn := lCnt l.length t (fun i => (l.take i).all (inR N) = true) (fun _ => []) []
def lSet (l : List Pq) (t e : Nat) : LAnn := lCnt l.length t (fun _ => True) (fun i => [(e, .mapp (setF (l.take i)))]) []
def ownP (e : Nat) (l : List Pq) : Nat × MBlk := (e, .oarr 40 l.length (psCols l))
def lOut (n : Int) (f : Pf) (t : Nat) : LAnn := lCnt n.toNat t (fun _ => True) (fun a => [(2, .cells [.i .i64 n, .sl 3 (allL f n.toNat a).length]), ownP 3 (allL f n.toNat a)]) [3]
def lInn (n : Int) (f : Pf) (t : Nat) : PLoop := ⟨Nat, fun a => lCnt n.toNat t (fun _ => a < n.toNat) (fun b => [(2, .cells [.i .i64 n, .sl 3 (allL f n.toNat a ++ rowL f a b).length]), ownP 3 (allL f n.toNat a ++ rowL f a b)]) [3]⟩
def lTbl (N : Int) (l : List Pq) (t e : Nat) : LAnn := lCnt l.length t (fun _ => True) (fun i => [(e, .oarr 4 (N.toNat * N.toNat) (bsCols (tblL N.toNat (setF (l.take i)))))]) []
/-- With memory said anew ahead of region id. -/
def tabG (calls : Calling) (loops : List (Nat × PLoop)) (id : Nat) (g : List Gh) : Tab := ⟨tyTab, [], calls, loops, [], [], [(id, fun _ _ => g)], []⟩
theorem tabGOk {calls : Calling} {loops : List (Nat × PLoop)} {id : Nat} {g : List Gh} (h : ∀ p ∈ calls, CallOk Try.prog [] p.1 p.2) : TabOk Try.prog (tabG calls loops id g) := ⟨mixed, tys, ints, fun _ _ hf => h _ (assoc_mem hf), fun _ _ hf => by cases hf⟩
def arP (l : List Pq) : MBlk := .arr l.length (psCols l)
def arB (l : List Bool) : MBlk := .arr l.length (bsCols l)
def rlV (N : Int) (x : Nat) (l : List Pq) : SV := .agg [.i .i64 N, .sl x l.length]
def bifL (c : Bool) (l : List Pq) : List Pq := bif c then l else []
theorem take_succ' {α : Type} (d : α) {l : List α} {i : Nat} (h : i < l.length) : l.take (i + 1) = l.take i ++ [nthD d l i] := by
  rw [nthD_get d l i h, List.take_add_one, List.getElem?_eq_getElem h]; rfl
theorem drop_succ' {α : Type} (d : α) {l : List α} {i : Nat} (h : i < l.length) : l.drop i = nthD d l i :: l.drop (i + 1) := by
  rw [nthD_get d l i h, List.drop_eq_getElem_cons h]
theorem nthD_lt {α : Type} (d : α) {l l' : List α} {j : Nat} (h : j < l.length) : nthD d (l ++ l') j = nthD d l j := by
  rw [nthD_get d _ _ (by simp; omega), nthD_get d _ _ h, List.getElem_append_left h]
theorem nthD_at {α : Type} (d : α) {l : List α} {x : α} : nthD d (l ++ [x]) l.length = x := by
  rw [nthD_get d _ _ (by simp)]; simp
theorem nthD_ge {α : Type} (d : α) {l l' : List α} {j : Nat} (h : l.length ≤ j) : nthD d (l ++ l') j = nthD d l' (j - l.length) := by
  by_cases h2 : j - l.length < l'.length
  · rw [nthD_get d _ _ (by simp; omega), nthD_get d _ _ h2, List.getElem_append_right h]
  · rw [nthD_out d _ _ (by simp; omega), nthD_out d _ _ (by omega)]
theorem blt_t {a b : Nat} (h : a < b) : Nat.blt a b = true := by rw [Nat.blt_eq]; exact h
theorem blt_f {a b : Nat} (h : ¬ a < b) : Nat.blt a b = false := Bool.eq_false_iff.2 fun e => h (by rwa [Nat.blt_eq] at e)
theorem beq_t {a : Nat} : Nat.beq a a = true := Nat.beq_refl a
theorem beq_f {a b : Nat} (h : a ≠ b) : Nat.beq a b = false := Bool.eq_false_iff.2 fun e => h (Nat.eq_of_beq_eq_true e)
theorem ap1 (F : Pq → Int) (l : List Pq) (x : Pq) : ∀ j, j < (l ++ [x]).length → (bif Nat.blt j l.length then F (nthD (0, 0) l j) else pickI [F x] (j - l.length)) = F (nthD (0, 0) (l ++ [x]) j) := fun j hj => by
  by_cases h : j < l.length
  · rw [blt_t h, cond_true, nthD_lt _ h]
  · have : j = l.length := by simp at hj; omega
    subst this
    rw [blt_f h, cond_false, nthD_at]
    rfl
theorem ap2 (F : Pq → Int) (l l' : List Pq) : ∀ j, (bif Nat.blt j l.length then F (nthD (0, 0) l j) else F (nthD (0, 0) l' (j - l.length))) = F (nthD (0, 0) (l ++ l') j) := fun j => by
  by_cases h : j < l.length
  · rw [blt_t h, cond_true, nthD_lt _ h]
  · rw [blt_f h, cond_false, nthD_ge _ (by omega)]
theorem setF_iff {l : List Pq} {a b : Int} : setF l a b = true ↔ (a, b) ∈ l := by
  simp only [setF, List.any_eq_true, Bool.and_eq_true, beq_iff_eq]
  constructor
  · rintro ⟨p, hp, rfl, rfl⟩; exact hp
  · intro h; exact ⟨_, h, rfl, rfl⟩
@[simp] theorem setF_nil : setF [] = fun _ _ => false := rfl
theorem setF_app {l l' : List Pq} {a b : Int} : setF (l ++ l') a b = (setF l a b || setF l' a b) := by simp [setF]
theorem setF_one {p : Pq} {a b : Int} : setF [p] a b = (a == p.1 && b == p.2) := by
  simp only [setF, List.any_cons, List.any_nil, Bool.or_false]
  rw [Bool.eq_iff_iff]; simp; constructor <;> rintro ⟨rfl, rfl⟩ <;> exact ⟨rfl, rfl⟩
theorem setF_take {l : List Pq} {i : Nat} (h : i < l.length) (a b : Int) : setF (l.take (i + 1)) a b = ((a == (nthD (0, 0) l i).1 && b == (nthD (0, 0) l i).2) || setF (l.take i) a b) := by
  rw [take_succ' (0, 0) h, setF_app, setF_one, Bool.or_comm]
theorem rowL_zero (f : Pf) (a : Nat) : rowL f a 0 = [] := rfl
theorem rowL_succ (f : Pf) (a k : Nat) : rowL f a (k + 1) = rowL f a k ++ (if f a k = true then [((a : Int), (k : Int))] else []) := by
  unfold rowL
  rw [List.range_succ, List.filter_append, List.map_append]
  congr 1
  by_cases h : f a k = true <;> simp [h]
theorem allL_zero (f : Pf) (n : Nat) : allL f n 0 = [] := rfl
theorem allL_succ (f : Pf) (n k : Nat) : allL f n (k + 1) = allL f n k ++ rowL f k n := by
  unfold allL
  rw [List.range_succ, List.flatMap_append]; simp
theorem rowL_len (f : Pf) (a k : Nat) : (rowL f a k).length ≤ k := by
  unfold rowL
  rw [List.length_map]
  exact Nat.le_trans (List.length_filter_le _ _) (by simp)
theorem allL_len (f : Pf) (n : Nat) : ∀ k, (allL f n k).length ≤ k * n := by
  intro k
  induction k with
  | zero => simp [allL_zero]
  | succ k ih => rw [allL_succ, List.length_append, Nat.succ_mul]; have := rowL_len f k n; omega
theorem mem_rowL {f : Pf} {a k : Nat} {p : Pq} : p ∈ rowL f a k ↔ ∃ b, b < k ∧ f a b = true ∧ p = ((a : Int), (b : Int)) := by
  simp only [rowL, List.mem_map, List.mem_filter, List.mem_range]
  constructor
  · rintro ⟨b, ⟨h1, h2⟩, rfl⟩; exact ⟨b, h1, h2, rfl⟩
  · rintro ⟨b, h1, h2, rfl⟩; exact ⟨b, ⟨h1, h2⟩, rfl⟩
theorem mem_allL {f : Pf} {n k : Nat} {p : Pq} : p ∈ allL f n k ↔ ∃ a b, a < k ∧ b < n ∧ f a b = true ∧ p = ((a : Int), (b : Int)) := by
  simp only [allL, List.mem_flatMap, List.mem_range, mem_rowL]
  constructor
  · rintro ⟨a, h1, b, h2, h3, h4⟩; exact ⟨a, b, h1, h2, h3, h4⟩
  · rintro ⟨a, b, h1, h2, h3, h4⟩; exact ⟨a, h1, b, h2, h3, h4⟩
theorem rowL_congr {f g : Pf} {a k : Nat} (h : ∀ b, b < k → f a b = g a b) : rowL f a k = rowL g a k := by
  unfold rowL
  congr 1
  apply List.filter_congr
  intro b hb
  exact h b (List.mem_range.1 hb)
theorem allL_congr {f g : Pf} {n k : Nat} (h : ∀ a b, a < k → b < n → f a b = g a b) : allL f n k = allL g n k := by
  induction k with
  | zero => rfl
  | succ k ih => rw [allL_succ, allL_succ, ih (fun a b ha hb => h a b (by omega) hb), rowL_congr (fun b hb => h k b (by omega) hb)]
theorem normL_congr {f g : Pf} {N : Int} (h : ∀ a b : Nat, (a : Int) < N → (b : Int) < N → f a b = g a b) : normL N f = normL N g := allL_congr fun a b ha hb => h a b (by omega) (by omega)
theorem normL_iff {f : Pf} {N a b : Int} : setF (normL N f) a b = true ↔ 0 ≤ a ∧ a < N ∧ 0 ≤ b ∧ b < N ∧ f a b = true := by
  rw [setF_iff, normL, mem_allL]
  constructor
  · rintro ⟨x, y, h1, h2, h3, h4⟩
    simp only [Prod.mk.injEq] at h4
    obtain ⟨rfl, rfl⟩ := h4
    exact ⟨by omega, by omega, by omega, by omega, h3⟩
  · rintro ⟨h1, h2, h3, h4, h5⟩
    refine ⟨a.toNat, b.toNat, by omega, by omega, ?_, ?_⟩
    · rw [Int.toNat_of_nonneg h1, Int.toNat_of_nonneg h3]; exact h5
    · rw [Int.toNat_of_nonneg h1, Int.toNat_of_nonneg h3]
theorem validF_iff {N : Int} {l : List Pq} : validF N l = true ↔ 0 ≤ N ∧ N ≤ 64 ∧ ∀ p ∈ l, 0 ≤ p.1 ∧ p.1 < N ∧ 0 ≤ p.2 ∧ p.2 < N := by
  simp only [validF, inB, inR, Bool.and_eq_true, Bool.not_eq_true', Bool.or_eq_false_iff, decide_eq_false_iff_not, List.all_eq_true]
  constructor
  · rintro ⟨⟨h1, h2⟩, h3⟩
    exact ⟨by omega, by omega, fun p hp => by obtain ⟨⟨⟨q1, q2⟩, q3⟩, q4⟩ := h3 p hp; omega⟩
  · rintro ⟨h1, h2, h3⟩
    exact ⟨⟨by omega, by omega⟩, fun p hp => by obtain ⟨q1, q2, q3, q4⟩ := h3 p hp; exact ⟨⟨⟨by omega, by omega⟩, by omega⟩, by omega⟩⟩
theorem nth_mem {l : List Pq} {i : Nat} (h : i < l.length) : nthD (0, 0) l i ∈ l := by rw [nthD_get _ _ _ h]; exact List.getElem_mem h
theorem nthD_tblL {n : Nat} {f : Pf} {i : Nat} (h : i < n * n) : nthD false (tblL n f) i = f ((i / n : Nat) : Int) ((i % n : Nat) : Int) := nthD_mkN _ _ h
@[simp] theorem tblL_len (n : Nat) (f : Pf) : (tblL n f).length = n * n := mkN_len _ _
theorem ix_lt {n a b : Nat} (ha : a < n) (hb : b < n) : a * n + b < n * n := by
  have : (a + 1) * n ≤ n * n := Nat.mul_le_mul_right _ ha
  rw [Nat.succ_mul] at this
  omega
theorem ix_div {n a b : Nat} (hb : b < n) : (a * n + b) / n = a := by
  rw [Nat.mul_comm, Nat.mul_add_div (by omega), Nat.div_eq_of_lt hb, Nat.add_zero]
theorem ix_mod {n a b : Nat} (hb : b < n) : (a * n + b) % n = b := by
  rw [Nat.mul_comm, Nat.mul_add_mod, Nat.mod_eq_of_lt hb]
theorem tblF_tblL {n : Nat} {f : Pf} {a b : Nat} (ha : a < n) (hb : b < n) : tblF n (tblL n f) a b = f a b := by
  unfold tblF
  have e : ((a : Int) * n + b).toNat = a * n + b := by
    have : (a : Int) * n + b = ((a * n + b : Nat) : Int) := by push_cast; rfl
    rw [this]; rfl
  rw [e, nthD_tblL (ix_lt ha hb), ix_div hb, ix_mod hb]
theorem sq_le {n : Nat} (h : n ≤ 64) : n * n ≤ 4096 := Nat.mul_le_mul h h
theorem swapL_take {l : List Pq} {i : Nat} (h : i < l.length) : swapL (l.take (i + 1)) = swapL (l.take i) ++ [((nthD (0, 0) l i).2, (nthD (0, 0) l i).1)] := by
  rw [take_succ' (0, 0) h]; simp [swapL]
theorem setF_swap {l : List Pq} {a b : Int} : setF (swapL l) a b = setF l b a := by
  rw [Bool.eq_iff_iff, setF_iff, setF_iff, swapL, List.mem_map]
  constructor
  · rintro ⟨p, hp, e⟩
    simp only [Prod.mk.injEq] at e
    obtain ⟨rfl, rfl⟩ := e
    exact hp
  · intro h; exact ⟨_, h, rfl⟩
theorem idxF_ge' {p : Pq} : ∀ {l : List Pq} {i : Int}, 0 ≤ i → (0 ≤ idxF p l i ↔ setF l p.1 p.2 = true) := by
  intro l
  induction l with
  | nil => intro i _; simp [idxF, setF]
  | cons q r ih =>
    intro i hi
    simp only [idxF, setF, List.any_cons]
    have e : (q.1 == p.1 && q.2 == p.2) = (p.1 == q.1 && p.2 == q.2) := by rw [Bool.beq_comm (a := q.1), Bool.beq_comm (a := q.2)]
    rw [e]
    by_cases h : (p.1 == q.1 && p.2 == q.2) = true
    · rw [h]; simpa using hi
    · rw [Bool.eq_false_iff.2 h, cond_false, ih (by omega)]; simp [setF]
theorem idxF_ge {p : Pq} {l : List Pq} {i : Int} (h : 0 ≤ i) : decide (idxF p l i ≥ 0) = setF l p.1 p.2 := by
  rw [Bool.eq_iff_iff, decide_eq_true_eq]
  exact idxF_ge' h
theorem w64_sub {n : Nat} {i : Nat} (h : (i : Int) < (n : Int)) (hn : n ≤ 1099511627776) : IntKind.i64.wrap ((i : Int) + 1) = ((i + 1 : Nat) : Int) := wrS (by omega) hn
end Go.Proofs.Ytiokmglajigngaa
