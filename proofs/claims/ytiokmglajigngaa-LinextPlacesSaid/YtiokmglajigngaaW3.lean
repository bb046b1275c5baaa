/-
  The linext layer: types, shapes of contracts.
-/
import Derived.Test.YtiokmglajigngaaSu17
import Derived.Test.YtiokmglajigngaaRows
namespace Go.Proofs.Ytiokmglajigngaa
open Go Go.Proofs.Ytiokmglajigngaa.Sx
def tyTab : List (Nat × TI) := [
(3, ⟨0, 1, 8, [.i .i64 0], [], 0, 0, some IntKind.i64, none, []⟩),
(4, ⟨5, 1, 1, [SV.ff], [], 0, 0, none, none, []⟩),
(22, ⟨3, 1, 24, [SV.nilsl], [], 40, 2, none, none, []⟩),
(24, ⟨1, 2, 32, [.i .i64 0, SV.nilsl], [(0, 1), (1, 1)], 0, 0, none, none, [false, false]⟩),
(25, ⟨3, 1, 24, [SV.nilsl], [], 3, 1, none, none, []⟩),
(28, ⟨0, 1, 8, [.i .i64 0], [], 0, 0, some IntKind.i64, none, []⟩),
(40, ⟨2, 2, 16, [.i .i64 0, .i .i64 0], [], 3, 2, none, some [some IntKind.i64, some IntKind.i64], []⟩),
(33, ⟨3, 1, 24, [SV.nilsl], [], 25, 1, none, none, []⟩),
(71, ⟨3, 1, 24, [SV.nilsl], [], 4, 1, none, none, []⟩),
(80, ⟨4, 1, 8, [SV.nilmap], [], 40, 4, none, none, []⟩),
(49, ⟨3, 1, 24, [SV.nilsl], [], 54, 1, none, none, []⟩),
(51, ⟨1, 2, 32, [.i .i64 0, SV.nilsl], [(0, 1), (1, 1)], 0, 0, none, none, [false, false]⟩),
(54, ⟨0, 1, 8, [.i .u64 0], [], 0, 0, some IntKind.u64, none, []⟩),
(77, ⟨0, 1, 8, [.i .u64 0], [], 0, 0, some IntKind.u64, none, []⟩),
(5, ⟨0, 1, 1, [.i .u8 0], [], 0, 0, some IntKind.u8, none, []⟩),
(83, ⟨0, 1, 8, [SV.dead], [], 0, 0, none, none, []⟩),
(59, ⟨0, 1, 8, [SV.dead], [], 0, 0, none, none, []⟩),
(65, ⟨1, 3, 56, [SV.nilsl, SV.nilsl, SV.ff], [(0, 1), (1, 1), (2, 1)], 0, 0, none, none, [false, false, false]⟩),
(68, ⟨4, 1, 8, [SV.nilmap], [], 54, 3, none, none, []⟩),
(74, ⟨4, 1, 8, [SV.nilmap], [], 54, 4, none, none, []⟩)]
theorem tys : ∀ t ti, assoc tyTab t = some ti → tiChk Try.prog t ti = true := by
  intro t ti h
  have key : (tyTab.all fun p => tiChk Try.prog p.1 p.2) = true := by kernel_rfl
  exact List.all_eq_true.1 key _ (assoc_mem h)
theorem ints : ∀ t ti, assoc tyTab t = some ti → intChk Try.prog t ti = true := by
  intro t ti h
  have key : (tyTab.all fun p => intChk Try.prog p.1 p.2) = true := by kernel_rfl
  exact List.all_eq_true.1 key _ (assoc_mem h)
theorem mixed : Try.prog.follows .mixedOrders = true := by kernel_rfl
abbrev Calling := List (Nat × (List MBlk → List SV → Option AR))
def tab (calls : Calling) (loops : List (Nat × PLoop)) : Tab := ⟨tyTab, [], calls, loops, [], [], [], []⟩
theorem tabOk {calls : Calling} {loops : List (Nat × PLoop)} (h : ∀ p ∈ calls, CallOk Try.prog [] p.1 p.2) : TabOk Try.prog (tab calls loops) := ⟨mixed, tys, ints, fun _ _ hf => h _ (assoc_mem hf), fun _ _ hf => by cases hf⟩
theorem mOne {f : Nat} {F : List MBlk → List SV → Option AR} {r : Calling} (h : CallOk Try.prog [] f F) (h' : ∀ p ∈ r, CallOk Try.prog [] p.1 p.2) : ∀ p ∈ (f, F) :: r, CallOk Try.prog [] p.1 p.2 := fun p hp => by
  rcases List.mem_cons.1 hp with rfl | h1
  · exact h
  · exact h' p h1
theorem mNil : ∀ p ∈ ([] : Calling), CallOk Try.prog [] p.1 p.2 := fun p hp => by cases hp
def EL : Els := ⟨40, 3, 4, 25, 54⟩
theorem w64_eq {n : Int} (h : -9223372036854775808 ≤ n) (h' : n ≤ 9223372036854775807) : IntKind.i64.wrap n = n := by
  simp only [IntKind.wrap, IntKind.signed, IntKind.bits]
  simp
  omega
theorem wrS {n i : Nat} (h : i < n) (hn : n ≤ 1099511627776) : IntKind.i64.wrap ((i : Int) + 1) = ((i + 1 : Nat) : Int) := by
  rw [w64_eq (by omega) (by omega)]; omega
end Go.Proofs.Ytiokmglajigngaa
namespace Go.Proofs.Ytiokmglajigngaa
open Go Go.Proofs.Ytiokmglajigngaa.Sx
set_option maxRecDepth 100000
set_option linter.unusedSimpArgs false
set_option linter.unusedVariables false
abbrev Pf := Int → Int → Bool
def inR (N : Int) (p : Pq) : Bool := !(decide (p.1 < 0) || decide (p.1 ≥ N) || decide (p.2 < 0) || decide (p.2 ≥ N))
def inB (N : Int) : Bool := !(decide (N < 0) || decide (N > 64))
def validF (N : Int) (l : List Pq) : Bool := inB N && l.all (inR N)
/-- Room for the numbers. -/
def L9 {α : Type} (l : List α) : Prop := l.length ≤ 1099511627776
def setF (l : List Pq) : Pf := fun a b => l.any (fun p => p.1 == a && p.2 == b)
def rowL (f : Pf) (a k : Nat) : List Pq := ((List.range k).filter (fun b : Nat => f a b)).map (fun (b : Nat) => ((a : Int), (b : Int)))
def allL (f : Pf) (n k : Nat) : List Pq := (List.range k).flatMap (fun a => rowL f a n)
def normL (N : Int) (f : Pf) : List Pq := allL f N.toNat N.toNat
/-- The table of a set of pairs. -/
def tblL (n : Nat) (f : Pf) : List Bool := mkN (fun i => f ((i / n : Nat) : Int) ((i % n : Nat) : Int)) (n * n)
abbrev Sp := List AV → Option (List Prop × RV)
def relT (N : Int) : Nat → SV := fun k => .agg [.i .i64 N, .sl 0 k]
def sVal : Sp := fun | [.r N l] => some ([L9 l], .pl (.b (validF N l))) | _ => none
def sSet : Sp := fun | [.r _ l] => some ([L9 l], .mp (setF l)) | _ => none
def sNor : Sp := fun | [.i n, .mp f] => some ([0 ≤ n ∧ n ≤ 64], .sl (relT n) (.ps (normL n f))) | _ => none
def sTbl : Sp := fun | [.r N l] => some ([validF N l = true, L9 l], .sl (fun k => .sl 0 k) (.bs (tblL N.toNat (setF l)))) | _ => none
def kVal (nm : List (Option AV)) : Nat × (List MBlk → List SV → Option AR) := (37, genF EL nm [.r] sVal)
def kVal' (nm : List (Option AV)) : Nat × (List MBlk → List SV → Option AR) := (27, genF EL nm [.r] sVal)
def kSet (nm : List (Option AV)) : Nat × (List MBlk → List SV → Option AR) := (56, genF EL nm [.r] sSet)
def kNor (nm : List (Option AV)) : Nat × (List MBlk → List SV → Option AR) := (55, genF EL nm [.i, .mp] sNor)
def kTbl (nm : List (Option AV)) : Nat × (List MBlk → List SV → Option AR) := (51, genF EL nm [.r] sTbl)
/-- A loop that counts in slot t up to n; P: what is known; mem. -/
def lCnt (n t : Nat) (P : Nat → Prop) (mem : Nat → List (Nat × MBlk)) (kill : List Nat) : LAnn where
  X := Nat
  inv := fun i => i ≤ n ∧ P i
  slots := fun i => [(t, .i .i64 (i : Int))]
  mem := mem
  mu := fun i => n - i
  kill := kill
def lVal (N : Int) (l : List Pq) (t : Nat) : LAnn := lCnt l.length t (fun i => (l.take i).all (inR N) = true) (fun _ => []) []
def lSet (l : List Pq) (t e : Nat) : LAnn := lCnt l.length t (fun _ => True) (fun i => [(e, .mapp (setF (l.take i)))]) []
def ownP (e : Nat) (l : List Pq) : Nat × MBlk := (e, .oarr 40 l.length (psCols l))
def lOut (n : Int) (f : Pf) (t : Nat) : LAnn := lCnt n.toNat t (fun _ => True) (fun a => [(2, .cells [.i .i64 n, .sl 3 (allL f n.toNat a).length]), ownP 3 (allL f n.toNat a)]) [3]
def lInn (n : Int) (f : Pf) (t : Nat) : PLoop := ⟨Nat, fun a => lCnt n.toNat t (fun _ => a < n.toNat) (fun b => [(2, .cells [.i .i64 n, .sl 3 (allL f n.toNat a ++ rowL f a b).length]), ownP 3 (allL f n.toNat a ++ rowL f a b)]) [3]⟩
def lTbl (N : Int) (l : List Pq) (t e : Nat) : LAnn := lCnt l.length t (fun _ => True) (fun i => [(e, .oarr 4 (N.toNat * N.toNat) (bsCols (tblL N.toNat (setF (l.take i)))))]) []
/-- With memory said anew ahead of region id. -/
def tabG (calls : Calling) (loops : List (Nat × PLoop)) (id : Nat) (g : List Gh) : Tab := ⟨tyTab, [], calls, loops, [], [], [(id, fun _ _ => g)], []⟩
theorem tabGOk {calls : Calling} {loops : List (Nat × PLoop)} {id : Nat} {g : List Gh} (h : ∀ p ∈ calls, CallOk Try.prog [] p.1 p.2) : TabOk Try.prog (tabG calls loops id g) := ⟨mixed, tys, ints, fun _ _ hf => h _ (assoc_mem hf), fun _ _ hf => by cases hf⟩
def arP (l : List Pq) : MBlk := .arr l.length (psCols l)
def rlV (N : Int) (x : Nat) (l : List Pq) : SV := .agg [.i .i64 N, .sl x l.length]
theorem take_succ' {α : Type} (d : α) {l : List α} {i : Nat} (h : i < l.length) : l.take (i + 1) = l.take i ++ [nthD d l i] := by
  rw [nthD_get d l i h, List.take_add_one, List.getElem?_eq_getElem h]; rfl
theorem drop_succ' {α : Type} (d : α) {l : List α} {i : Nat} (h : i < l.length) : l.drop i = nthD d l i :: l.drop (i + 1) := by
  rw [nthD_get d l i h, List.drop_eq_getElem_cons h]
theorem nthD_lt {α : Type} (d : α) {l l' : List α} {j : Nat} (h : j < l.length) : nthD d (l ++ l') j = nthD d l j := by
  rw [nthD_get d _ _ (by simp; omega), nthD_get d _ _ h, List.getElem_append_left h]
theorem nthD_at {α : Type} (d : α) {l : List α} {x : α} : nthD d (l ++ [x]) l.length = x := by
  rw [nthD_get d _ _ (by simp)]; simp
theorem nthD_ge {α : Type} (d : α) {l l' : List α} {j : Nat} (h : l.length ≤ j) : nthD d (l ++ l') j = nthD d l' (j - l.length) := by
  by_cases h2 : j - l.length < l'.length
  · rw [nthD_get d _ _ (by simp; omega), nthD_get d _ _ h2, List.getElem_append_right h]
  · rw [nthD_out d _ _ (by simp; omega), nthD_out d _ _ (by omega)]
theorem blt_t {a b : Nat} (h : a < b) : Nat.blt a b = true := by rw [Nat.blt_eq]; exact h
theorem blt_f {a b : Nat} (h : ¬ a < b) : Nat.blt a b = false := Bool.eq_false_iff.2 fun e => h (by rwa [Nat.blt_eq] at e)
theorem beq_t {a : Nat} : Nat.beq a a = true := Nat.beq_refl a
theorem beq_f {a b : Nat} (h : a ≠ b) : Nat.beq a b = false := Bool.eq_false_iff.2 fun e => h (Nat.eq_of_beq_eq_true e)
theorem ap1 (F : Pq → Int) (l : List Pq) (x : Pq) : ∀ j, j < (l ++ [x]).length → (bif Nat.blt j l.length then F (nthD (0, 0) l j) else pickI [F x] (j - l.length)) = F (nthD (0, 0) (l ++ [x]) j) := fun j hj => by
  by_cases h : j < l.length
  · rw [blt_t h, cond_true, nthD_lt _ h]
  · have : j = l.length := by simp at hj; omega
    subst this
    rw [blt_f h, cond_false, nthD_at]
    rfl
theorem setF_iff {l : List Pq} {a b : Int} : setF l a b = true ↔ (a, b) ∈ l := by
  simp only [setF, List.any_eq_true, Bool.and_eq_true, beq_iff_eq]
  constructor
  · rintro ⟨p, hp, rfl, rfl⟩; exact hp
  · intro h; exact ⟨_, h, rfl, rfl⟩
@[simp] theorem setF_nil : setF [] = fun _ _ => false := rfl
theorem setF_app {l l' : List Pq} {a b : Int} : setF (l ++ l') a b = (setF l a b || setF l' a b) := by simp [setF]
theorem setF_one {p : Pq} {a b : Int} : setF [p] a b = (a == p.1 && b == p.2) := by
  simp only [setF, List.any_cons, List.any_nil, Bool.or_false]
  rw [Bool.eq_iff_iff]; simp; constructor <;> rintro ⟨rfl, rfl⟩ <;> exact ⟨rfl, rfl⟩
theorem setF_take {l : List Pq} {i : Nat} (h : i < l.length) (a b : Int) : setF (l.take (i + 1)) a b = ((a == (nthD (0, 0) l i).1 && b == (nthD (0, 0) l i).2) || setF (l.take i) a b) := by
  rw [take_succ' (0, 0) h, setF_app, setF_one, Bool.or_comm]
theorem rowL_zero (f : Pf) (a : Nat) : rowL f a 0 = [] := rfl
theorem rowL_succ (f : Pf) (a k : Nat) : rowL f a (k + 1) = rowL f a k ++ (if f a k = true then [((a : Int), (k : Int))] else []) := by
  unfold rowL
  rw [List.range_succ, List.filter_append, List.map_append]
  congr 1
  by_cases h : f a k = true <;> simp [h]
theorem allL_zero (f : Pf) (n : Nat) : allL f n 0 = [] := rfl
theorem allL_succ (f : Pf) (n k : Nat) : allL f n (k + 1) = allL f n k ++ rowL f k n := by
  unfold allL
  rw [List.range_succ, List.flatMap_append]; simp
theorem rowL_len (f : Pf) (a k : Nat) : (rowL f a k).length ≤ k := by
  unfold rowL
  rw [List.length_map]
  exact Nat.le_trans (List.length_filter_le _ _) (by simp)
theorem allL_len (f : Pf) (n : Nat) : ∀ k, (allL f n k).length ≤ k * n := by
  intro k
  induction k with
  | zero => simp [allL_zero]
  | succ k ih => rw [allL_succ, List.length_append, Nat.succ_mul]; have := rowL_len f k n; omega
theorem mem_rowL {f : Pf} {a k : Nat} {p : Pq} : p ∈ rowL f a k ↔ ∃ b, b < k ∧ f a b = true ∧ p = ((a : Int), (b : Int)) := by
  simp only [rowL, List.mem_map, List.mem_filter, List.mem_range]
  constructor
  · rintro ⟨b, ⟨h1, h2⟩, rfl⟩; exact ⟨b, h1, h2, rfl⟩
  · rintro ⟨b, h1, h2, rfl⟩; exact ⟨b, ⟨h1, h2⟩, rfl⟩
theorem mem_allL {f : Pf} {n k : Nat} {p : Pq} : p ∈ allL f n k ↔ ∃ a b, a < k ∧ b < n ∧ f a b = true ∧ p = ((a : Int), (b : Int)) := by
  simp only [allL, List.mem_flatMap, List.mem_range, mem_rowL]
  constructor
  · rintro ⟨a, h1, b, h2, h3, h4⟩; exact ⟨a, b, h1, h2, h3, h4⟩
  · rintro ⟨a, b, h1, h2, h3, h4⟩; exact ⟨a, h1, b, h2, h3, h4⟩
theorem validF_iff {N : Int} {l : List Pq} : validF N l = true ↔ 0 ≤ N ∧ N ≤ 64 ∧ ∀ p ∈ l, 0 ≤ p.1 ∧ p.1 < N ∧ 0 ≤ p.2 ∧ p.2 < N := by
  simp only [validF, inB, inR, Bool.and_eq_true, Bool.not_eq_true', Bool.or_eq_false_iff, decide_eq_false_iff_not, List.all_eq_true]
  constructor
  · rintro ⟨⟨h1, h2⟩, h3⟩
    exact ⟨by omega, by omega, fun p hp => by obtain ⟨⟨⟨q1, q2⟩, q3⟩, q4⟩ := h3 p hp; omega⟩
  · rintro ⟨h1, h2, h3⟩
    exact ⟨⟨by omega, by omega⟩, fun p hp => by obtain ⟨q1, q2, q3, q4⟩ := h3 p hp; exact ⟨⟨⟨by omega, by omega⟩, by omega⟩, by omega⟩⟩
theorem nth_mem {l : List Pq} {i : Nat} (h : i < l.length) : nthD (0, 0) l i ∈ l := by rw [nthD_get _ _ _ h]; exact List.getElem_mem h
theorem nthD_tblL {n : Nat} {f : Pf} {i : Nat} (h : i < n * n) : nthD false (tblL n f) i = f ((i / n : Nat) : Int) ((i % n : Nat) : Int) := nthD_mkN _ _ h
@[simp] theorem tblL_len (n : Nat) (f : Pf) : (tblL n f).length = n * n := mkN_len _ _
theorem ix_lt {n a b : Nat} (ha : a < n) (hb : b < n) : a * n + b < n * n := by
  have : (a + 1) * n ≤ n * n := Nat.mul_le_mul_right _ ha
  rw [Nat.succ_mul] at this
  omega
theorem ix_div {n a b : Nat} (hb : b < n) : (a * n + b) / n = a := by
  rw [Nat.mul_comm, Nat.mul_add_div (by omega), Nat.div_eq_of_lt hb, Nat.add_zero]
theorem ix_mod {n a b : Nat} (hb : b < n) : (a * n + b) % n = b := by
  rw [Nat.mul_comm, Nat.mul_add_mod, Nat.mod_eq_of_lt hb]
theorem sq_le {n : Nat} (h : n ≤ 64) : n * n ≤ 4096 := Nat.mul_le_mul h h
theorem w64_sub {n : Nat} {i : Nat} (h : (i : Int) < (n : Int)) (hn : n ≤ 1099511627776) : IntKind.i64.wrap ((i : Int) + 1) = ((i + 1 : Nat) : Int) := wrS (by omega) hn
end Go.Proofs.Ytiokmglajigngaa
namespace Go.Proofs.Ytiokmglajigngaa
open Go Go.Proofs.Ytiokmglajigngaa.Sx
set_option maxRecDepth 100000
set_option linter.unusedSimpArgs false
set_option linter.unusedVariables false
theorem all_take {N : Int} {l : List Pq} {i : Nat} (h : i < l.length) : (l.take (i + 1)).all (inR N) = ((l.take i).all (inR N) && inR N (nthD (0, 0) l i)) := by
  rw [take_succ' (0, 0) h, List.all_append]; simp
theorem lt_len {i n : Nat} (h : decide ((i : Int) < (n : Int)) = true) : i < n := by simpa using h
theorem ge_len {i n : Nat} (h : decide ((i : Int) < (n : Int)) = false) (h2 : i ≤ n) : i = n := by
  have : ¬ (i : Int) < (n : Int) := of_decide_eq_false h
  omega
theorem bd {i n : Nat} (h : i < n) : (0 : Int) ≤ (i : Int) ∧ (i : Int) < (n : Int) := by omega
theorem v37_eq (N : Int) (l : List Pq) : (fnVc (tab [] [(0, .of (lVal N l 16))]) Try.f37 [rlV N 0 l] [arP l] (plainIs (.b (validF N l)))) = (((decide (N < (0 : Int)) || decide (N > (64 : Int))) = true → false = validF N l) ∧
 ((decide (N < (0 : Int)) || decide (N > (64 : Int))) = false →
 ∃ (x : PUnit),
 (∃ (x : Nat), (x ≤ l.length ∧ (List.take x l).all (inR N) = true) ∧ ((0 : Int) = (↑x : Int) ∧ True) ∧ True) ∧
 ∀ (x_1 : Nat),
 x_1 ≤ l.length ∧ (List.take x_1 l).all (inR N) = true →
 (decide ((↑x_1 : Int) < (↑l.length : Int)) = true →
 ((0 : Int) ≤ (↑x_1 : Int) ∧ (↑x_1 : Int) < (↑l.length : Int)) ∧
 x_1 < l.length ∧
 ((decide ((nthD ((0 : Int), (0 : Int)) l x_1).fst < (0 : Int)) ||
 decide ((nthD ((0 : Int), (0 : Int)) l x_1).fst ≥ N) ||
 decide ((nthD ((0 : Int), (0 : Int)) l x_1).snd < (0 : Int)) ||
 decide ((nthD ((0 : Int), (0 : Int)) l x_1).snd ≥ N)) =
 true →
 false = validF N l) ∧
 ((decide ((nthD ((0 : Int), (0 : Int)) l x_1).fst < (0 : Int)) ||
 decide ((nthD ((0 : Int), (0 : Int)) l x_1).fst ≥ N) ||
 decide ((nthD ((0 : Int), (0 : Int)) l x_1).snd < (0 : Int)) ||
 decide ((nthD ((0 : Int), (0 : Int)) l x_1).snd ≥ N)) =
 false →
 ∃ (x_2 : Nat),
 (x_2 ≤ l.length ∧ (List.take x_2 l).all (inR N) = true) ∧
 ((PLoop.of (lVal N l (16 : Nat))).ann x).mu x_2 <
 ((PLoop.of (lVal N l (16 : Nat))).ann x).mu x_1 ∧
 ((N = N ∧ l.length = l.length) ∧
 True ∧
 True ∧
 N = N ∧
 decide (N < (0 : Int)) = decide (N < (0 : Int)) ∧
 decide (N < (0 : Int)) = decide (N < (0 : Int)) ∧
 false = false ∧
 True ∧
 l.length = l.length ∧
 (↑l.length : Int) = (↑l.length : Int) ∧
 IntKind.i64.wrap ((↑x_1 : Int) + (1 : Int)) = (↑x_2 : Int) ∧ True) ∧
 (l.length = l.length ∧
 (∀ (j : Nat),
 j < l.length →
 (nthD ((0 : Int), (0 : Int)) l j).fst =
 (nthD ((0 : Int), (0 : Int)) l j).fst) ∧
 (∀ (j : Nat),
 j < l.length →
 (nthD ((0 : Int), (0 : Int)) l j).snd =
 (nthD ((0 : Int), (0 : Int)) l j).snd) ∧
 True) ∧
 (N = N ∧ l.length = l.length) ∧ True)) ∧
 (decide ((↑x_1 : Int) < (↑l.length : Int)) = false → true = validF N l))) := by kernel_rfl
theorem v37 (N : Int) (l : List Pq) (hl : L9 l) : fnVc (tab [] [(0, .of (lVal N l 16))]) Try.f37 [rlV N 0 l] [arP l] (plainIs (.b (validF N l))) := by
  rw [v37_eq]
  simp only [eq_self, true_and, and_true, implies_true, imp_self, psK_eq, mkN_ps, mkN_rs, mkN_self, mkN_len, PLoop.of, lCnt, lVal, lSet, lOut, lInn, lTbl, AV.len]
  refine ⟨fun h => ?_, fun h => ⟨(), ⟨0, by simp, rfl⟩, fun i hi => ⟨fun hlt => ?_, fun hlt => ?_⟩⟩⟩
  · have : inB N = false := by rw [inB, h]; rfl
    rw [validF, this]; rfl
  · have hi2 := lt_len hlt
    refine ⟨bd hi2, hi2, fun hc => ?_, fun hc => ?_⟩
    · have : inR N (nthD (0, 0) l i) = false := by rw [inR]; exact congrArg (!·) hc
      rw [validF]
      have h2 : l.all (inR N) = false := by
        rw [List.all_eq_false]
        exact ⟨_, nth_mem hi2, by rw [this]; simp⟩
      rw [h2, Bool.and_false]
    · have : inR N (nthD (0, 0) l i) = true := by rw [inR]; exact congrArg (!·) hc
      exact ⟨i + 1, ⟨hi2, by rw [all_take hi2, hi.2, this]; rfl⟩, by omega, w64_sub (by omega) hl⟩
  · have hi2 := ge_len hlt hi.1
    have h3 := hi.2
    rw [hi2, List.take_length] at h3
    have : inB N = true := by rw [inB, h]; rfl
    rw [validF, h3, this]; rfl
theorem v27_eq (N : Int) (l : List Pq) : (fnVc (tab [] [(0, .of (lVal N l 3))]) Try.f27 [rlV N 0 l] [arP l] (plainIs (.b (validF N l)))) = (((decide (N < (0 : Int)) || decide (N > (64 : Int))) = true → false = validF N l) ∧
 ((decide (N < (0 : Int)) || decide (N > (64 : Int))) = false →
 ∃ (x : PUnit),
 (∃ (x : Nat), (x ≤ l.length ∧ (List.take x l).all (inR N) = true) ∧ ((0 : Int) = (↑x : Int) ∧ True) ∧ True) ∧
 ∀ (x_1 : Nat),
 x_1 ≤ l.length ∧ (List.take x_1 l).all (inR N) = true →
 (decide ((↑x_1 : Int) < (↑l.length : Int)) = true →
 ((0 : Int) ≤ (↑x_1 : Int) ∧ (↑x_1 : Int) < (↑l.length : Int)) ∧
 x_1 < l.length ∧
 ((0 : Int) ≤ (↑x_1 : Int) ∧ (↑x_1 : Int) < (↑l.length : Int)) ∧
 x_1 < l.length ∧
 ((decide ((nthD ((0 : Int), (0 : Int)) l x_1).fst < (0 : Int)) ||
 decide ((nthD ((0 : Int), (0 : Int)) l x_1).fst ≥ N) ||
 decide ((nthD ((0 : Int), (0 : Int)) l x_1).snd < (0 : Int)) ||
 decide ((nthD ((0 : Int), (0 : Int)) l x_1).snd ≥ N)) =
 true →
 false = validF N l) ∧
 ((decide ((nthD ((0 : Int), (0 : Int)) l x_1).fst < (0 : Int)) ||
 decide ((nthD ((0 : Int), (0 : Int)) l x_1).fst ≥ N) ||
 decide ((nthD ((0 : Int), (0 : Int)) l x_1).snd < (0 : Int)) ||
 decide ((nthD ((0 : Int), (0 : Int)) l x_1).snd ≥ N)) =
 false →
 ∃ (x_2 : Nat),
 (x_2 ≤ l.length ∧ (List.take x_2 l).all (inR N) = true) ∧
 ((PLoop.of (lVal N l (3 : Nat))).ann x).mu x_2 <
 ((PLoop.of (lVal N l (3 : Nat))).ann x).mu x_1 ∧
 ((N = N ∧ l.length = l.length) ∧
 True ∧
 IntKind.i64.wrap ((↑x_1 : Int) + (1 : Int)) = (↑x_2 : Int) ∧
 True ∧
 N = N ∧
 decide (N < (0 : Int)) = decide (N < (0 : Int)) ∧
 decide (N < (0 : Int)) = decide (N < (0 : Int)) ∧
 false = false ∧ True) ∧
 (l.length = l.length ∧
 (∀ (j : Nat),
 j < l.length →
 (nthD ((0 : Int), (0 : Int)) l j).fst =
 (nthD ((0 : Int), (0 : Int)) l j).fst) ∧
 (∀ (j : Nat),
 j < l.length →
 (nthD ((0 : Int), (0 : Int)) l j).snd =
 (nthD ((0 : Int), (0 : Int)) l j).snd) ∧
 True) ∧
 (N = N ∧ l.length = l.length) ∧ True)) ∧
 (decide ((↑x_1 : Int) < (↑l.length : Int)) = false → true = validF N l))) := by kernel_rfl
theorem v27 (N : Int) (l : List Pq) (hl : L9 l) : fnVc (tab [] [(0, .of (lVal N l 3))]) Try.f27 [rlV N 0 l] [arP l] (plainIs (.b (validF N l))) := by
  rw [v27_eq]
  simp only [eq_self, true_and, and_true, implies_true, imp_self, psK_eq, mkN_ps, mkN_rs, mkN_self, mkN_len, PLoop.of, lCnt, lVal, lSet, lOut, lInn, lTbl, AV.len]
  refine ⟨fun h => ?_, fun h => ⟨(), ⟨0, by simp, rfl⟩, fun i hi => ⟨fun hlt => ?_, fun hlt => ?_⟩⟩⟩
  · have : inB N = false := by rw [inB, h]; rfl
    rw [validF, this]; rfl
  · have hi2 := lt_len hlt
    refine ⟨bd hi2, hi2, bd hi2, hi2, fun hc => ?_, fun hc => ?_⟩
    · have : inR N (nthD (0, 0) l i) = false := by rw [inR]; exact congrArg (!·) hc
      rw [validF]
      have h2 : l.all (inR N) = false := by
        rw [List.all_eq_false]
        exact ⟨_, nth_mem hi2, by rw [this]; simp⟩
      rw [h2, Bool.and_false]
    · have : inR N (nthD (0, 0) l i) = true := by rw [inR]; exact congrArg (!·) hc
      exact ⟨i + 1, ⟨hi2, by rw [all_take hi2, hi.2, this]; rfl⟩, by omega, w64_sub (by omega) hl⟩
  · have hi2 := ge_len hlt hi.1
    have h3 := hi.2
    rw [hi2, List.take_length] at h3
    have : inB N = true := by rw [inB, h]; rfl
    rw [validF, h3, this]; rfl
theorem v56_eq (N : Int) (l : List Pq) : (fnVc (tab [] [(0, .of (lSet l 10 2))]) Try.f56 [rlV N 0 l] [arP l] (resMap (setF l))) = (∃ (x : PUnit),
 (∃ (x : Nat),
 (x ≤ l.length ∧ True) ∧
 ((0 : Int) = (↑x : Int) ∧ True) ∧ (∀ (x_1 y : Int), false = setF (List.take x l) x_1 y) ∧ True) ∧
 ∀ (x_1 : Nat),
 x_1 ≤ l.length ∧ True →
 (decide ((↑x_1 : Int) < (↑l.length : Int)) = true →
 ((0 : Int) ≤ (↑x_1 : Int) ∧ (↑x_1 : Int) < (↑l.length : Int)) ∧
 x_1 < l.length ∧
 ∃ (x_2 : Nat),
 (x_2 ≤ l.length ∧ True) ∧
 ((PLoop.of (lSet l (10 : Nat) (2 : Nat))).ann x).mu x_2 <
 ((PLoop.of (lSet l (10 : Nat) (2 : Nat))).ann x).mu x_1 ∧
 ((N = N ∧ l.length = l.length) ∧
 True ∧
 True ∧
 True ∧
 True ∧
 True ∧
 l.length = l.length ∧
 (↑l.length : Int) = (↑l.length : Int) ∧
 IntKind.i64.wrap ((↑x_1 : Int) + (1 : Int)) = (↑x_2 : Int) ∧ True) ∧
 (l.length = l.length ∧
 (∀ (j : Nat),
 j < l.length →
 (nthD ((0 : Int), (0 : Int)) l j).fst = (nthD ((0 : Int), (0 : Int)) l j).fst) ∧
 (∀ (j : Nat),
 j < l.length →
 (nthD ((0 : Int), (0 : Int)) l j).snd = (nthD ((0 : Int), (0 : Int)) l j).snd) ∧
 True) ∧
 (N = N ∧ l.length = l.length) ∧
 (∀ (x y : Int),
 (x == (nthD ((0 : Int), (0 : Int)) l x_1).fst &&
 y == (nthD ((0 : Int), (0 : Int)) l x_1).snd ||
 setF (List.take x_1 l) x y) =
 setF (List.take x_2 l) x y) ∧
 True) ∧
 (decide ((↑x_1 : Int) < (↑l.length : Int)) = false → ∀ (x y : Int), setF (List.take x_1 l) x y = setF l x y)) := by kernel_rfl
theorem v56 (N : Int) (l : List Pq) (hl : L9 l) : fnVc (tab [] [(0, .of (lSet l 10 2))]) Try.f56 [rlV N 0 l] [arP l] (resMap (setF l)) := by
  rw [v56_eq]
  simp only [eq_self, true_and, and_true, implies_true, imp_self, psK_eq, mkN_ps, mkN_rs, mkN_self, mkN_len, PLoop.of, lCnt, lVal, lSet, lOut, lInn, lTbl, AV.len]
  refine ⟨(), ⟨0, by simp, rfl, by simp⟩, fun i hi => ⟨fun hlt => ?_, fun hlt x y => ?_⟩⟩
  · have hi2 := lt_len hlt
    exact ⟨bd hi2, hi2, i + 1, by omega, by omega, w64_sub (by omega) hl, fun x y => (setF_take hi2 x y).symm⟩
  · rw [ge_len hlt hi, List.take_length]
theorem v55_eq (n : Int) (f : Pf) : (fnVc (tabG [] [(0, .of (lOut n f 11)), (2, lInn n f 15)] 2 [.fresh 2 1 40 2]) Try.f55 [.i .i64 n, .mp 0] [.fmapp f] (resIs (relT n (normL n f).length) 40 (normL n f).length (psCols (normL n f)))) = (∃ (x : PUnit),
 (∃ (x : Nat),
 (x ≤ n.toNat ∧ True) ∧
 ((0 : Int) = (↑x : Int) ∧ True) ∧
 (n = n ∧ (0 : Nat) = (allL f n.toNat x).length) ∧
 ((0 : Nat) = (allL f n.toNat x).length ∧
 (allL f n.toNat x).length = (0 : Nat) ∧ (allL f n.toNat x).length = (0 : Nat) ∧ True) ∧
 True) ∧
 ∀ (x_1 : Nat),
 x_1 ≤ n.toNat ∧ True →
 (decide ((↑x_1 : Int) < n) = true →
 ∃ (x_2 : Nat),
 (∃ (x : Nat),
 (x ≤ n.toNat ∧ x_2 < n.toNat) ∧
 ((0 : Int) = (↑x : Int) ∧ True) ∧
 (n = n ∧ (allL f n.toNat x_1).length = (allL f n.toNat x_2 ++ rowL f x_2 x).length) ∧
 ((allL f n.toNat x_1).length = (allL f n.toNat x_2 ++ rowL f x_2 x).length ∧
 (∀ (j : Nat),
 j < (allL f n.toNat x_2 ++ rowL f x_2 x).length →
 (nthD ((0 : Int), (0 : Int)) (allL f n.toNat x_1) j).fst =
 (nthD ((0 : Int), (0 : Int)) (allL f n.toNat x_2 ++ rowL f x_2 x) j).fst) ∧
 (∀ (j : Nat),
 j < (allL f n.toNat x_2 ++ rowL f x_2 x).length →
 (nthD ((0 : Int), (0 : Int)) (allL f n.toNat x_1) j).snd =
 (nthD ((0 : Int), (0 : Int)) (allL f n.toNat x_2 ++ rowL f x_2 x) j).snd) ∧
 True) ∧
 True) ∧
 ∀ (x_3 : Nat),
 x_3 ≤ n.toNat ∧ x_2 < n.toNat →
 (decide ((↑x_3 : Int) < n) = true →
 (f (↑x_1 : Int) (↑x_3 : Int) = true →
 (allL f n.toNat x_2 ++ rowL f x_2 x_3).length =
 (allL f n.toNat x_2 ++ rowL f x_2 x_3).length ∧
 (1 : Nat) = (1 : Nat) ∧
 ((allL f n.toNat x_2 ++ rowL f x_2 x_3).length + (1 : Nat)) * (16 : Nat) ≤
 (140737488355328 : Nat) ∧
 (allL f n.toNat x_2 ++ rowL f x_2 x_3).length + (1 : Nat) ≤
 (9223372036854775807 : Nat) ∧
 ∃ (x : Nat),
 (x ≤ n.toNat ∧ x_2 < n.toNat) ∧
 ((lInn n f (15 : Nat)).ann x_2).mu x < ((lInn n f (15 : Nat)).ann x_2).mu x_3 ∧
 (n = n ∧
 True ∧
 True ∧
 True ∧
 (↑x_1 : Int) = (↑x_1 : Int) ∧
 n = n ∧
 (n = n ∧ True) ∧
 n = n ∧
 (↑x_1 : Int) = (↑x_1 : Int) ∧
 true = true ∧
 (↑x_1 : Int) = (↑x_1 : Int) ∧
 n = n ∧
 IntKind.i64.wrap ((↑x_3 : Int) + (1 : Int)) =
 (↑x : Int) ∧
 True) ∧
 (∀ (x y : Int), f x y = f x y) ∧
 ((0 : Int) = (0 : Int) ∧ True) ∧
 (n = n ∧
 (allL f n.toNat x_2 ++ rowL f x_2 x_3).length + (1 : Nat) =
 (allL f n.toNat x_2 ++ rowL f x_2 x).length) ∧
 ((allL f n.toNat x_2 ++ rowL f x_2 x_3).length + (1 : Nat) =
 (allL f n.toNat x_2 ++ rowL f x_2 x).length ∧
 (∀ (j : Nat),
 j < (allL f n.toNat x_2 ++ rowL f x_2 x).length →
 (bif
 j.blt
 (allL f n.toNat x_2 ++ rowL f x_2 x_3).length then
 (nthD ((0 : Int), (0 : Int))
 (allL f n.toNat x_2 ++ rowL f x_2 x_3) j).fst
 else
 pickI [(↑x_1 : Int)]
 (j - (allL f n.toNat x_2 ++ rowL f x_2 x_3).length)) =
 (nthD ((0 : Int), (0 : Int))
 (allL f n.toNat x_2 ++ rowL f x_2 x) j).fst) ∧
 (∀ (j : Nat),
 j < (allL f n.toNat x_2 ++ rowL f x_2 x).length →
 (bif
 j.blt
 (allL f n.toNat x_2 ++ rowL f x_2 x_3).length then
 (nthD ((0 : Int), (0 : Int))
 (allL f n.toNat x_2 ++ rowL f x_2 x_3) j).snd
 else
 pickI [(↑x_3 : Int)]
 (j -
 (allL f n.toNat x_2 ++ rowL f x_2 x_3).length)) =
 (nthD ((0 : Int), (0 : Int))
 (allL f n.toNat x_2 ++ rowL f x_2 x) j).snd) ∧
 True) ∧
 True) ∧
 (f (↑x_1 : Int) (↑x_3 : Int) = false →
 ∃ (x : Nat),
 (x ≤ n.toNat ∧ x_2 < n.toNat) ∧
 ((lInn n f (15 : Nat)).ann x_2).mu x < ((lInn n f (15 : Nat)).ann x_2).mu x_3 ∧
 (n = n ∧
 True ∧
 True ∧
 True ∧
 (↑x_1 : Int) = (↑x_1 : Int) ∧
 n = n ∧
 (n = n ∧ True) ∧
 n = n ∧
 (↑x_1 : Int) = (↑x_1 : Int) ∧
 true = true ∧
 (↑x_1 : Int) = (↑x_1 : Int) ∧
 n = n ∧
 IntKind.i64.wrap ((↑x_3 : Int) + (1 : Int)) = (↑x : Int) ∧
 True) ∧
 (∀ (x y : Int), f x y = f x y) ∧
 ((0 : Int) = (0 : Int) ∧ True) ∧
 (n = n ∧
 (allL f n.toNat x_2 ++ rowL f x_2 x_3).length =
 (allL f n.toNat x_2 ++ rowL f x_2 x).length) ∧
 ((allL f n.toNat x_2 ++ rowL f x_2 x_3).length =
 (allL f n.toNat x_2 ++ rowL f x_2 x).length ∧
 (∀ (j : Nat),
 j < (allL f n.toNat x_2 ++ rowL f x_2 x).length →
 (nthD ((0 : Int), (0 : Int)) (allL f n.toNat x_2 ++ rowL f x_2 x_3)
 j).fst =
 (nthD ((0 : Int), (0 : Int)) (allL f n.toNat x_2 ++ rowL f x_2 x)
 j).fst) ∧
 (∀ (j : Nat),
 j < (allL f n.toNat x_2 ++ rowL f x_2 x).length →
 (nthD ((0 : Int), (0 : Int))
 (allL f n.toNat x_2 ++ rowL f x_2 x_3) j).snd =
 (nthD ((0 : Int), (0 : Int))
 (allL f n.toNat x_2 ++ rowL f x_2 x) j).snd) ∧
 True) ∧
 True)) ∧
 (decide ((↑x_3 : Int) < n) = false →
 ∃ (x_4 : Nat),
 (x_4 ≤ n.toNat ∧ True) ∧
 ((PLoop.of (lOut n f (11 : Nat))).ann x).mu x_4 <
 ((PLoop.of (lOut n f (11 : Nat))).ann x).mu x_1 ∧
 (n = n ∧
 True ∧
 True ∧
 True ∧
 n = n ∧
 (n = n ∧ True) ∧
 n = n ∧ IntKind.i64.wrap ((↑x_1 : Int) + (1 : Int)) = (↑x_4 : Int) ∧ True) ∧
 (∀ (x y : Int), f x y = f x y) ∧
 ((0 : Int) = (0 : Int) ∧ True) ∧
 (n = n ∧
 (allL f n.toNat x_2 ++ rowL f x_2 x_3).length = (allL f n.toNat x_4).length) ∧
 ((allL f n.toNat x_2 ++ rowL f x_2 x_3).length = (allL f n.toNat x_4).length ∧
 (∀ (j : Nat),
 j < (allL f n.toNat x_4).length →
 (nthD ((0 : Int), (0 : Int)) (allL f n.toNat x_2 ++ rowL f x_2 x_3)
 j).fst =
 (nthD ((0 : Int), (0 : Int)) (allL f n.toNat x_4) j).fst) ∧
 (∀ (j : Nat),
 j < (allL f n.toNat x_4).length →
 (nthD ((0 : Int), (0 : Int)) (allL f n.toNat x_2 ++ rowL f x_2 x_3)
 j).snd =
 (nthD ((0 : Int), (0 : Int)) (allL f n.toNat x_4) j).snd) ∧
 True) ∧
 True)) ∧
 (decide ((↑x_1 : Int) < n) = false →
 (allL f n.toNat x_1).length = (normL n f).length ∧
 ((∀ (j : Nat),
 j < (normL n f).length →
 (nthD ((0 : Int), (0 : Int)) (allL f n.toNat x_1) j).fst =
 (nthD ((0 : Int), (0 : Int)) (normL n f) j).fst) ∧
 (∀ (j : Nat),
 j < (normL n f).length →
 (nthD ((0 : Int), (0 : Int)) (allL f n.toNat x_1) j).snd =
 (nthD ((0 : Int), (0 : Int)) (normL n f) j).snd) ∧
 True) ∧
 n = n ∧ (allL f n.toNat x_1).length = (normL n f).length ∧ True)) := by kernel_rfl
theorem v55 (n : Int) (f : Pf) (hn : 0 ≤ n ∧ n ≤ 64) : fnVc (tabG [] [(0, .of (lOut n f 11)), (2, lInn n f 15)] 2 [.fresh 2 1 40 2]) Try.f55 [.i .i64 n, .mp 0] [.fmapp f] (resIs (relT n (normL n f).length) 40 (normL n f).length (psCols (normL n f))) := by
  rw [v55_eq]
  have hn0 := hn.1
  have hn1 := hn.2
  have hN : n.toNat ≤ 64 := by omega
  have hlen : ∀ a b, a < n.toNat → b ≤ n.toNat → (allL f n.toNat a ++ rowL f a b).length ≤ 8192 := fun a b ha hb => by
    have h1 := allL_len f n.toNat a
    have h2 := rowL_len f a b
    have h3 : a * n.toNat ≤ 64 * 64 := Nat.mul_le_mul (by omega) hN
    rw [List.length_append]; omega
  simp only [eq_self, true_and, and_true, implies_true, imp_self, psK_eq, mkN_ps, mkN_rs, mkN_self, mkN_len, PLoop.of, lCnt, lVal, lSet, lOut, lInn, lTbl, AV.len]
  refine ⟨(), ⟨0, by simp, rfl, ?_⟩, fun a ha => ⟨fun hlt => ⟨a, ⟨0, ?_⟩, fun b hb => ⟨fun hlb => ⟨fun hf => ?_, fun hf => ?_⟩, fun hlb => ?_⟩⟩, fun hlt => ?_⟩⟩
  · simp [allL_zero]
  · have ha2 : a < n.toNat := by have := of_decide_eq_true hlt; omega
    simp [rowL_zero, ha2]
  · have hb2 : b < n.toNat := by have := of_decide_eq_true hlb; omega
    have h1 := hlen a b hb.2 hb.1
    have e : rowL f a (b + 1) = rowL f a b ++ [((a : Int), (b : Int))] := by rw [rowL_succ, if_pos hf]
    have e2 : allL f n.toNat a ++ rowL f a (b + 1) = (allL f n.toNat a ++ rowL f a b) ++ [((a : Int), (b : Int))] := by rw [e, List.append_assoc]
    refine ⟨by omega, by omega, b + 1, ⟨by omega, hb.2⟩, by omega, wrS (n := n.toNat) hb2 (by omega), ?_⟩
    rw [e2]
    have e3 : (allL f n.toNat a ++ rowL f a b ++ [((a : Int), (b : Int))]).length = (allL f n.toNat a ++ rowL f a b).length + 1 := by rw [List.length_append (bs := [((a : Int), (b : Int))])]; rfl
    exact ⟨e3.symm, e3.symm, ap1 (·.1) _ _, ap1 (·.2) _ _⟩
  · have hb2 : b < n.toNat := by have := of_decide_eq_true hlb; omega
    have e : rowL f a (b + 1) = rowL f a b := by rw [rowL_succ, if_neg (by rw [hf]; simp), List.append_nil]
    refine ⟨b + 1, ⟨by omega, hb.2⟩, by omega, wrS (n := n.toNat) hb2 (by omega), ?_⟩
    rw [e]
    simp
  · have hb2 : b = n.toNat := by have := of_decide_eq_false hlb; omega
    have e : allL f n.toNat (a + 1) = allL f n.toNat a ++ rowL f a b := by rw [allL_succ, hb2]
    refine ⟨a + 1, by omega, by omega, wrS (n := n.toNat) hb.2 (by omega), ?_⟩
    rw [e]
    simp
  · have ha2 : a = n.toNat := by have := of_decide_eq_false hlt; omega
    subst ha2
    simp [normL]
theorem ixw {a b : Nat} {N : Int} (ha : (a : Int) < N) (hb : (b : Int) < N) (hN : N ≤ 64) : IntKind.i64.wrap (IntKind.i64.wrap ((a : Int) * N) + (b : Int)) = ((a * N.toNat + b : Nat) : Int) := by
  obtain ⟨n, rfl⟩ := Int.eq_ofNat_of_zero_le (show 0 ≤ N by omega)
  have h1 : a * n ≤ 64 * 64 := Nat.mul_le_mul (by omega) (by omega)
  have h2 : (a : Int) * (n : Int) = ((a * n : Nat) : Int) := by push_cast; rfl
  have h3 : ((a * n : Nat) : Int) ≤ 4096 := by omega
  rw [h2, w64_eq (n := ((a * n : Nat) : Int)) (by omega) (by omega), w64_eq (by omega) (by omega)]
  simp
theorem ixwI {a b : Int} {N : Int} (ha0 : 0 ≤ a) (hb0 : 0 ≤ b) (ha : a < N) (hb : b < N) (hN : N ≤ 64) : IntKind.i64.wrap (IntKind.i64.wrap (a * N) + b) = ((a.toNat * N.toNat + b.toNat : Nat) : Int) := by
  obtain ⟨x, rfl⟩ := Int.eq_ofNat_of_zero_le ha0
  obtain ⟨y, rfl⟩ := Int.eq_ofNat_of_zero_le hb0
  exact ixw ha hb hN
theorem sqw {N : Int} (h0 : 0 ≤ N) (hN : N ≤ 64) : IntKind.i64.wrap (N * N) = ((N.toNat * N.toNat : Nat) : Int) := by
  obtain ⟨n, rfl⟩ := Int.eq_ofNat_of_zero_le h0
  have h1 : n * n ≤ 64 * 64 := Nat.mul_le_mul (by omega) (by omega)
  have h2 : (n : Int) * (n : Int) = ((n * n : Nat) : Int) := by push_cast; rfl
  rw [h2, w64_eq (by omega) (by omega)]
  simp
theorem tbl_step {N : Int} {l : List Pq} (hv : validF N l = true) {i : Nat} (hi : i < l.length) : ∀ j, j < N.toNat * N.toNat → (bif Nat.beq j ((nthD (0, 0) l i).1.toNat * N.toNat + (nthD (0, 0) l i).2.toNat) then true else nthD false (tblL N.toNat (setF (l.take i))) j) = nthD false (tblL N.toNat (setF (l.take (i + 1)))) j := fun j hj => by
  obtain ⟨h1, h2, h3⟩ := validF_iff.1 hv
  obtain ⟨q1, q2, q3, q4⟩ := h3 _ (nth_mem hi)
  rw [nthD_tblL hj, nthD_tblL hj, setF_take hi]
  generalize nthD (0, 0) l i = p at q1 q2 q3 q4 ⊢
  obtain ⟨x, y⟩ := p
  simp only at q1 q2 q3 q4 ⊢
  obtain ⟨x, rfl⟩ := Int.eq_ofNat_of_zero_le q1
  obtain ⟨y, rfl⟩ := Int.eq_ofNat_of_zero_le q3
  have hy : y < N.toNat := by omega
  simp only [Int.toNat_natCast]
  by_cases e : j = x * N.toNat + y
  · subst e
    rw [beq_t, cond_true, ix_div hy, ix_mod hy]
    simp
  · rw [beq_f e, cond_false]
    have : ¬ (j / N.toNat = x ∧ j % N.toNat = y) := fun ⟨e1, e2⟩ => e (by
      have := Nat.div_add_mod j N.toNat
      rw [e1, e2, Nat.mul_comm] at this
      exact this.symm)
    have h4 : ((((j / N.toNat : Nat) : Int) == (x : Int)) && (((j % N.toNat : Nat) : Int) == (y : Int))) = false := by
      rw [Bool.eq_false_iff]
      intro h
      simp only [Bool.and_eq_true, beq_iff_eq] at h
      exact this ⟨by omega, by omega⟩
    rw [h4, Bool.false_or]
theorem v51_eq (N : Int) (l : List Pq) : (fnVc (tab [] [(0, .of (lTbl N l 4 3))]) Try.f51 [rlV N 0 l] [arP l] (resIs (.sl 0 (tblL N.toNat (setF l)).length) 4 (tblL N.toNat (setF l)).length (bsCols (tblL N.toNat (setF l))))) = ((0 : Int) ≤ IntKind.i64.wrap (N * N) ∧
 IntKind.i64.wrap (N * N) = IntKind.i64.wrap (N * N) ∧
 (↑(1 : Nat) : Int) * IntKind.i64.wrap (N * N) ≤ (281474976710656 : Int) ∧
 IntKind.i64.wrap (N * N) ≤ (9223372036854775807 : Int) ∧
 ∃ (x : PUnit),
 (∃ (x : Nat),
 (x ≤ l.length ∧ True) ∧
 ((0 : Int) = (↑x : Int) ∧ True) ∧
 ((IntKind.i64.wrap (N * N)).toNat = N.toNat * N.toNat ∧
 (∀ (j : Nat),
 j < N.toNat * N.toNat → false = nthD false (tblL N.toNat (setF (List.take x l))) j) ∧
 True) ∧
 True) ∧
 ∀ (x_1 : Nat),
 x_1 ≤ l.length ∧ True →
 (decide ((↑x_1 : Int) < (↑l.length : Int)) = true →
 ((0 : Int) ≤ (↑x_1 : Int) ∧ (↑x_1 : Int) < (↑l.length : Int)) ∧
 x_1 < l.length ∧
 ((0 : Int) ≤ (↑x_1 : Int) ∧ (↑x_1 : Int) < (↑l.length : Int)) ∧
 x_1 < l.length ∧
 ((0 : Int) ≤
 IntKind.i64.wrap
 (IntKind.i64.wrap ((nthD ((0 : Int), (0 : Int)) l x_1).fst * N) +
 (nthD ((0 : Int), (0 : Int)) l x_1).snd) ∧
 IntKind.i64.wrap
 (IntKind.i64.wrap ((nthD ((0 : Int), (0 : Int)) l x_1).fst * N) +
 (nthD ((0 : Int), (0 : Int)) l x_1).snd) <
 (↑(IntKind.i64.wrap (N * N)).toNat : Int)) ∧
 (IntKind.i64.wrap
 (IntKind.i64.wrap ((nthD ((0 : Int), (0 : Int)) l x_1).fst * N) +
 (nthD ((0 : Int), (0 : Int)) l x_1).snd)).toNat <
 N.toNat * N.toNat ∧
 ∃ (x_2 : Nat),
 (x_2 ≤ l.length ∧ True) ∧
 ((PLoop.of (lTbl N l (4 : Nat) (3 : Nat))).ann x).mu x_2 <
 ((PLoop.of (lTbl N l (4 : Nat) (3 : Nat))).ann x).mu x_1 ∧
 ((N = N ∧ l.length = l.length) ∧
 True ∧
 (0 : Nat) = (0 : Nat) ∧
 (IntKind.i64.wrap (N * N)).toNat = (IntKind.i64.wrap (N * N)).toNat ∧
 IntKind.i64.wrap ((↑x_1 : Int) + (1 : Int)) = (↑x_2 : Int) ∧
 True ∧
 N = N ∧
 True ∧
 N = N ∧
 IntKind.i64.wrap (N * N) = IntKind.i64.wrap (N * N) ∧
 (IntKind.i64.wrap (N * N)).toNat =
 (IntKind.i64.wrap (N * N)).toNat ∧
 True) ∧
 (l.length = l.length ∧
 (∀ (j : Nat),
 j < l.length →
 (nthD ((0 : Int), (0 : Int)) l j).fst =
 (nthD ((0 : Int), (0 : Int)) l j).fst) ∧
 (∀ (j : Nat),
 j < l.length →
 (nthD ((0 : Int), (0 : Int)) l j).snd =
 (nthD ((0 : Int), (0 : Int)) l j).snd) ∧
 True) ∧
 (N = N ∧ l.length = l.length) ∧
 ((0 : Nat) = (0 : Nat) ∧ True ∧ True) ∧
 (N.toNat * N.toNat = N.toNat * N.toNat ∧
 (∀ (j : Nat),
 j < N.toNat * N.toNat →
 (bif
 j.beq
 (IntKind.i64.wrap
 (IntKind.i64.wrap
 ((nthD ((0 : Int), (0 : Int)) l x_1).fst * N) +
 (nthD ((0 : Int), (0 : Int)) l
 x_1).snd)).toNat then
 true
 else nthD false (tblL N.toNat (setF (List.take x_1 l))) j) =
 nthD false (tblL N.toNat (setF (List.take x_2 l))) j) ∧
 True) ∧
 True) ∧
 (decide ((↑x_1 : Int) < (↑l.length : Int)) = false →
 N.toNat * N.toNat = (tblL N.toNat (setF l)).length ∧
 ((∀ (j : Nat),
 j < (tblL N.toNat (setF l)).length →
 nthD false (tblL N.toNat (setF (List.take x_1 l))) j =
 nthD false (tblL N.toNat (setF l)) j) ∧
 True) ∧
 (IntKind.i64.wrap (N * N)).toNat = (tblL N.toNat (setF l)).length)) := by kernel_rfl
theorem v51 (N : Int) (l : List Pq) (hv : validF N l = true) (hl : L9 l) : fnVc (tab [] [(0, .of (lTbl N l 4 3))]) Try.f51 [rlV N 0 l] [arP l] (resIs (.sl 0 (tblL N.toNat (setF l)).length) 4 (tblL N.toNat (setF l)).length (bsCols (tblL N.toNat (setF l)))) := by
  rw [v51_eq]
  obtain ⟨h1, h2, h3⟩ := validF_iff.1 hv
  have hs := sqw h1 h2
  have hb : N.toNat * N.toNat ≤ 4096 := sq_le (by omega)
  simp only [eq_self, true_and, and_true, implies_true, imp_self, psK_eq, mkN_ps, mkN_rs, mkN_self, mkN_len, PLoop.of, lCnt, lVal, lSet, lOut, lInn, lTbl, AV.len, tblL_len, bsCols]
  rw [hs]
  refine ⟨by omega, by omega, by omega, (), ⟨0, by simp, rfl, ?_⟩, fun i hi => ⟨fun hlt => ?_, fun hlt => ?_⟩⟩
  · refine ⟨Int.toNat_natCast _, fun j hj => ?_⟩
    rw [nthD_tblL hj]; rfl
  · have hi2 := lt_len hlt
    obtain ⟨q1, q2, q3, q4⟩ := h3 _ (nth_mem hi2)
    have e := ixwI q1 q3 q2 q4 h2
    have e2 : (nthD (0, 0) l i).1.toNat * N.toNat + (nthD (0, 0) l i).2.toNat < N.toNat * N.toNat := ix_lt (by omega) (by omega)
    rw [e]
    simp only [Int.toNat_natCast]
    exact ⟨bd hi2, hi2, bd hi2, hi2, by omega, e2, i + 1, by omega, by omega, w64_sub (by omega) hl, tbl_step hv hi2⟩
  · have hi2 := ge_len hlt hi
    rw [hi2, List.take_length]
    simp only [Int.toNat_natCast, implies_true, and_true]
end Go.Proofs.Ytiokmglajigngaa
namespace Go.Proofs.Ytiokmglajigngaa
open Go Go.Proofs.Ytiokmglajigngaa.Sx
set_option maxRecDepth 100000
set_option linter.unusedSimpArgs false
set_option linter.unusedVariables false
theorem okT {fid : FuncId} {fn : Func} {ks : List AK} {S : List AV → Option (List Prop × RV)} (hfn : Try.prog.funcs[fid]? = some fn) (hok : fnOk Try.prog fid) (T : List AV → Tab) (hT : ∀ av, TabOk Try.prog (T av)) (hg : ∀ av, (T av).globals = [] ∧ (T av).pins = [])
    (hres : ∀ av pre rv, S av = some (pre, rv) → rv.ok = true ∧ (∀ t a, rv = .sl t a → a.cols ≠ []))
    (hv : ∀ av pre rv, S av = some (pre, rv) → (∀ p ∈ pre, p) → fnVc (T av) fn (lcVs 0 av) (lcMem av) (rv.post EL)) : CallOk Try.prog [] fid (genF EL [] ks S) :=
  genOk hfn hok hres fun av pre rv h hp => ⟨_, hT av, (hg av).1, (hg av).2, hv av pre rv h hp⟩
theorem fo37 : fnOk Try.prog 37 := ⟨Try.f37, Try.func37, by kernel_rfl, by kernel_rfl⟩
theorem fo27 : fnOk Try.prog 27 := ⟨Try.f27, Try.func27, by kernel_rfl, by kernel_rfl⟩
theorem fo56 : fnOk Try.prog 56 := ⟨Try.f56, Try.func56, by kernel_rfl, by kernel_rfl⟩
theorem fo55 : fnOk Try.prog 55 := ⟨Try.f55, Try.func55, by kernel_rfl, by kernel_rfl⟩
theorem fo51 : fnOk Try.prog 51 := ⟨Try.f51, Try.func51, by kernel_rfl, by kernel_rfl⟩
def t37 : List AV → Tab
  | [.r N l] => tab [] [(0, .of (lVal N l 16))]
  | _ => tab [] []
theorem c37 : CallOk Try.prog [] 37 (genF EL [] [.r] sVal) := by
  refine okT (fn := Try.f37) Try.func37 fo37 t37 (fun av => ?_) (fun av => ?_) (fun av pre rv h => ?_) (fun av pre rv h hp => ?_)
  · unfold t37; split <;> first | exact tabOk mNil | exact tabOk mNil
  · unfold t37; split <;> exact ⟨rfl, rfl⟩
  · unfold sVal at h; split at h <;> cases h
    exact ⟨rfl, fun t a e => by cases e <;> exact List.cons_ne_nil _ _⟩
  · unfold sVal at h; split at h <;> cases h
    exact v37 _ _ (hp _ (.head _))
theorem n37 (nm : List (Option AV)) : CallOk Try.prog [] 37 (genF EL nm [.r] sVal) := genNm c37
def t27 : List AV → Tab
  | [.r N l] => tab [] [(0, .of (lVal N l 3))]
  | _ => tab [] []
theorem c27 : CallOk Try.prog [] 27 (genF EL [] [.r] sVal) := by
  refine okT (fn := Try.f27) Try.func27 fo27 t27 (fun av => ?_) (fun av => ?_) (fun av pre rv h => ?_) (fun av pre rv h hp => ?_)
  · unfold t27; split <;> first | exact tabOk mNil | exact tabOk mNil
  · unfold t27; split <;> exact ⟨rfl, rfl⟩
  · unfold sVal at h; split at h <;> cases h
    exact ⟨rfl, fun t a e => by cases e <;> exact List.cons_ne_nil _ _⟩
  · unfold sVal at h; split at h <;> cases h
    exact v27 _ _ (hp _ (.head _))
theorem n27 (nm : List (Option AV)) : CallOk Try.prog [] 27 (genF EL nm [.r] sVal) := genNm c27
def t56 : List AV → Tab
  | [.r N l] => tab [] [(0, .of (lSet l 10 2))]
  | _ => tab [] []
theorem c56 : CallOk Try.prog [] 56 (genF EL [] [.r] sSet) := by
  refine okT (fn := Try.f56) Try.func56 fo56 t56 (fun av => ?_) (fun av => ?_) (fun av pre rv h => ?_) (fun av pre rv h hp => ?_)
  · unfold t56; split <;> first | exact tabOk mNil | exact tabOk mNil
  · unfold t56; split <;> exact ⟨rfl, rfl⟩
  · unfold sSet at h; split at h <;> cases h
    exact ⟨rfl, fun t a e => by cases e <;> exact List.cons_ne_nil _ _⟩
  · unfold sSet at h; split at h <;> cases h
    exact v56 _ _ (hp _ (.head _))
theorem n56 (nm : List (Option AV)) : CallOk Try.prog [] 56 (genF EL nm [.r] sSet) := genNm c56
def t55 : List AV → Tab
  | [.i n, .mp f] => tabG [] [(0, .of (lOut n f 11)), (2, lInn n f 15)] 2 [.fresh 2 1 40 2]
  | _ => tab [] []
theorem c55 : CallOk Try.prog [] 55 (genF EL [] [.i, .mp] sNor) := by
  refine okT (fn := Try.f55) Try.func55 fo55 t55 (fun av => ?_) (fun av => ?_) (fun av pre rv h => ?_) (fun av pre rv h hp => ?_)
  · unfold t55; split <;> first | exact tabGOk mNil | exact tabOk mNil
  · unfold t55; split <;> exact ⟨rfl, rfl⟩
  · unfold sNor at h; split at h <;> cases h
    exact ⟨rfl, fun t a e => by cases e <;> exact List.cons_ne_nil _ _⟩
  · unfold sNor at h; split at h <;> cases h
    exact v55 _ _ (hp _ (.head _))
theorem n55 (nm : List (Option AV)) : CallOk Try.prog [] 55 (genF EL nm [.i, .mp] sNor) := genNm c55
def t51 : List AV → Tab
  | [.r N l] => tab [] [(0, .of (lTbl N l 4 3))]
  | _ => tab [] []
theorem c51 : CallOk Try.prog [] 51 (genF EL [] [.r] sTbl) := by
  refine okT (fn := Try.f51) Try.func51 fo51 t51 (fun av => ?_) (fun av => ?_) (fun av pre rv h => ?_) (fun av pre rv h hp => ?_)
  · unfold t51; split <;> first | exact tabOk mNil | exact tabOk mNil
  · unfold t51; split <;> exact ⟨rfl, rfl⟩
  · unfold sTbl at h; split at h <;> cases h
    exact ⟨rfl, fun t a e => by cases e <;> exact List.cons_ne_nil _ _⟩
  · unfold sTbl at h; split at h <;> cases h
    exact v51 _ _ (hp _ (.head _)) (hp _ (.tail _ (.head _)))
theorem n51 (nm : List (Option AV)) : CallOk Try.prog [] 51 (genF EL nm [.r] sTbl) := genNm c51
/-- The second places of the pairs with the first place a. -/
def secs (P : List Pq) (a : Nat) : List Int := (P.filter (fun p => p.1 == (a : Int))).map (·.2)
def rowsOf (n : Nat) (P : List Pq) : List (List Int) := mkN (secs P) n
def sucL (n : Nat) (f : Pf) : List (List Int) := mkN (fun a => (rowL f a n).map (·.2)) n
def orw (n : Nat) (R : List (List Int)) : MBlk := .orows 25 3 n none none (fun j => (nthD [] R j).length) [fun j i => nthD 0 (nthD [] R j) i]
def lSuc (N : Int) (P : List Pq) (t e : Nat) : LAnn := lCnt P.length t (fun _ => True) (fun i => [(e, orw N.toNat (rowsOf N.toNat (P.take i)))]) []
def tabK (calls : Calling) (loops : List (Nat × PLoop)) (id : Nat) (g : List MBlk → List Gh) : Tab := ⟨tyTab, [], calls, loops, [], [], [(id, fun _ m => g m)], []⟩
theorem tabKOk {calls : Calling} {loops : List (Nat × PLoop)} {id : Nat} {g : List MBlk → List Gh} (h : ∀ p ∈ calls, CallOk Try.prog [] p.1 p.2) : TabOk Try.prog (tabK calls loops id g) := ⟨mixed, tys, ints, fun _ _ hf => h _ (assoc_mem hf), fun _ _ hf => by cases hf⟩
def tkRow (box out : Nat) : List MBlk → List Gh := fun m => match nth m box with
  | some (.cells (.i _ a :: _)) => [.take out a.toNat]
  | _ => []
def sSuc : Sp := fun | [.r N l] => some ([validF N l = true, L9 l], .sl (fun k => .sl 0 k) (.rs (sucL N.toNat (setF l)))) | _ => none
def kSuc (nm : List (Option AV)) : Nat × (List MBlk → List SV → Option AR) := (53, genF EL nm [.r] sSuc)
theorem nthD_rows {n a : Nat} {P : List Pq} (h : a < n) : nthD [] (rowsOf n P) a = secs P a := nthD_mkN _ _ h
theorem secs_app {P Q : List Pq} {a : Nat} : secs (P ++ Q) a = secs P a ++ secs Q a := by simp [secs]
theorem secs_take {P : List Pq} {i : Nat} (h : i < P.length) (a : Nat) : secs (P.take (i + 1)) a = secs (P.take i) a ++ (if (nthD (0, 0) P i).1 = (a : Int) then [(nthD (0, 0) P i).2] else []) := by
  rw [take_succ' (0, 0) h, secs_app]
  congr 1
  by_cases e : (nthD (0, 0) P i).1 = (a : Int) <;> simp [secs, e]
theorem secs_row {f : Pf} {a b k : Nat} : secs (rowL f b k) a = if a = b then (rowL f a k).map (·.2) else [] := by
  by_cases e : a = b
  · subst e
    rw [if_pos rfl, secs, List.filter_eq_self.2]
    intro p hp
    obtain ⟨_, _, _, rfl⟩ := mem_rowL.1 hp
    simp
  · rw [if_neg e, secs, List.filter_eq_nil_iff.2]
    · rfl
    · intro p hp
      obtain ⟨_, _, _, rfl⟩ := mem_rowL.1 hp
      simp only [beq_iff_eq]
      omega
theorem secs_all {f : Pf} {n a : Nat} : ∀ k, secs (allL f n k) a = if a < k then (rowL f a n).map (·.2) else [] := by
  intro k
  induction k with
  | zero => simp [allL_zero, secs]
  | succ k ih =>
    rw [allL_succ, secs_app, ih, secs_row]
    by_cases h1 : a < k
    · rw [if_pos h1, if_neg (by omega), if_pos (by omega), List.append_nil]
    · rw [if_neg h1]
      by_cases h2 : a = k
      · rw [if_pos h2, if_pos (by omega)]; rfl
      · rw [if_neg h2, if_neg (by omega)]; rfl
@[simp] theorem sucL_len (n : Nat) (f : Pf) : (sucL n f).length = n := mkN_len _ _
theorem nthD_sucL {n a : Nat} {f : Pf} (h : a < n) : nthD [] (sucL n f) a = (rowL f a n).map (·.2) := nthD_mkN _ _ h
theorem rows_norm {N : Int} {f : Pf} {j : Nat} (h : j < N.toNat) : nthD [] (rowsOf N.toNat (normL N f)) j = nthD [] (sucL N.toNat f) j := by
  rw [nthD_rows h, nthD_sucL h, normL, secs_all, if_pos h]
theorem norm_len {N : Int} {f : Pf} (h : N ≤ 64) : (normL N f).length ≤ 4096 := Nat.le_trans (allL_len f _ _) (sq_le (by omega))
theorem secs_len {P : List Pq} {a : Nat} : (secs P a).length ≤ P.length := by
  rw [secs, List.length_map]; exact List.length_filter_le _ _
theorem v53_eq (N : Int) (l : List Pq) : (fnVc (tabK [kSet [], kNor [none, none, none, none, some (.mp (setF l)), some (.ps (normL N (setF l)))]] [(0, .of (lSuc N (normL N (setF l)) 16 3))] 5 (tkRow 6 3)) Try.f53 [rlV N 0 l] [arP l] (resIs (.sl 0 (sucL N.toNat (setF l)).length) 25 (sucL N.toNat (setF l)).length (rsCols (sucL N.toNat (setF l))))) = ((0 : Int) ≤ N ∧
 N = N ∧
 (↑(24 : Nat) : Int) * N ≤ (281474976710656 : Int) ∧
 N ≤ (9223372036854775807 : Int) ∧
 l.length = l.length ∧
 (psK l).length ≤
 (1099511627776 : Nat) ∧
 setF
 (psK l) =
 setF l ∧
 ((0 : Int) ≤ N ∧ N ≤ (64 : Int)) ∧
 normL N (setF l) = normL N (setF l) ∧
 ∃ (x : PUnit),
 (∃ (x : Nat),
 (x ≤ (normL N (setF l)).length ∧ True) ∧
 ((0 : Int) = (↑x : Int) ∧ True) ∧
 (N.toNat = N.toNat ∧
 (∀ (j : Nat),
 j < N.toNat →
 (0 : Nat) =
 (nthD [] (rowsOf N.toNat (List.take x (normL N (setF l)))) j).length) ∧
 (∀ (j : Nat),
 j < N.toNat →
 ∀ (i : Nat),
 i < (nthD [] (rowsOf N.toNat (List.take x (normL N (setF l)))) j).length →
 (0 : Int) =
 nthD (0 : Int)
 (nthD [] (rowsOf N.toNat (List.take x (normL N (setF l)))) j) i) ∧
 True) ∧
 True) ∧
 ∀ (x_1 : Nat),
 x_1 ≤ (normL N (setF l)).length ∧ True →
 (decide ((↑x_1 : Int) < (↑(AV.ps (normL N (setF l))).len : Int)) = true →
 ((0 : Int) ≤ (↑x_1 : Int) ∧ (↑x_1 : Int) < (↑(AV.ps (normL N (setF l))).len : Int)) ∧
 x_1 < (AV.ps (normL N (setF l))).len ∧
 (nthD ((0 : Int), (0 : Int)) (normL N (setF l)) x_1).fst.toNat < N.toNat ∧
 ((0 : Int) ≤ (nthD ((0 : Int), (0 : Int)) (normL N (setF l)) x_1).fst ∧
 (nthD ((0 : Int), (0 : Int)) (normL N (setF l)) x_1).fst < (↑N.toNat : Int)) ∧
 (nthD ((0 : Int), (0 : Int)) (normL N (setF l)) x_1).fst.toNat < N.toNat ∧
 (nthD ((0 : Int), (0 : Int)) (normL N (setF l)) x_1).fst.toNat =
 (nthD ((0 : Int), (0 : Int)) (normL N (setF l)) x_1).fst.toNat ∧
 (nthD [] (rowsOf N.toNat (List.take x_1 (normL N (setF l))))
 (nthD ((0 : Int), (0 : Int)) (normL N (setF l))
 x_1).fst.toNat).length =
 (nthD [] (rowsOf N.toNat (List.take x_1 (normL N (setF l))))
 (nthD ((0 : Int), (0 : Int)) (normL N (setF l))
 x_1).fst.toNat).length ∧
 (1 : Nat) = (1 : Nat) ∧
 ((nthD [] (rowsOf N.toNat (List.take x_1 (normL N (setF l))))
 (nthD ((0 : Int), (0 : Int)) (normL N (setF l))
 x_1).fst.toNat).length +
 (1 : Nat)) *
 (8 : Nat) ≤
 (140737488355328 : Nat) ∧
 (nthD [] (rowsOf N.toNat (List.take x_1 (normL N (setF l))))
 (nthD ((0 : Int), (0 : Int)) (normL N (setF l))
 x_1).fst.toNat).length +
 (1 : Nat) ≤
 (9223372036854775807 : Nat) ∧
 ((0 : Int) ≤
 (nthD ((0 : Int), (0 : Int)) (normL N (setF l)) x_1).fst ∧
 (nthD ((0 : Int), (0 : Int)) (normL N (setF l)) x_1).fst <
 (↑N.toNat : Int)) ∧
 (nthD ((0 : Int), (0 : Int)) (normL N (setF l)) x_1).fst.toNat <
 N.toNat ∧
 (nthD ((0 : Int), (0 : Int)) (normL N (setF l)) x_1).fst.toNat =
 (nthD ((0 : Int), (0 : Int)) (normL N (setF l))
 x_1).fst.toNat ∧
 (nthD [] (rowsOf N.toNat (List.take x_1 (normL N (setF l))))
 (nthD ((0 : Int), (0 : Int)) (normL N (setF l))
 x_1).fst.toNat).length +
 (1 : Nat) =
 (nthD [] (rowsOf N.toNat (List.take x_1 (normL N (setF l))))
 (nthD ((0 : Int), (0 : Int)) (normL N (setF l))
 x_1).fst.toNat).length +
 (1 : Nat) ∧
 ∃ (x_2 : Nat),
 (x_2 ≤ (normL N (setF l)).length ∧ True) ∧
 ((PLoop.of
 (lSuc N (normL N (setF l)) (16 : Nat)
 (3 : Nat))).ann
 x).mu
 x_2 <
 ((PLoop.of
 (lSuc N (normL N (setF l)) (16 : Nat)
 (3 : Nat))).ann
 x).mu
 x_1 ∧
 ((N = N ∧ l.length = l.length) ∧
 True ∧
 (0 : Nat) = (0 : Nat) ∧
 N.toNat = N.toNat ∧
 True ∧
 N = N ∧
 N.toNat = N.toNat ∧
 True ∧
 N = N ∧
 (N = N ∧ l.length = l.length) ∧
 True ∧
 (N = N ∧
 (AV.ps
 (normL N
 (setF l))).len =
 (AV.ps
 (normL N
 (setF l))).len) ∧
 (AV.ps
 (normL N
 (setF l))).len =
 (AV.ps
 (normL N
 (setF l))).len ∧
 (↑(AV.ps
 (normL N
 (setF
 l))).len :
 Int) =
 (↑(AV.ps
 (normL N
 (setF
 l))).len :
 Int) ∧
 IntKind.i64.wrap
 ((↑x_1 : Int) +
 (1 : Int)) =
 (↑x_2 : Int) ∧
 True) ∧
 (l.length = l.length ∧
 (∀ (j : Nat),
 j < l.length →
 (nthD ((0 : Int), (0 : Int)) l j).fst =
 (nthD ((0 : Int), (0 : Int)) l j).fst) ∧
 (∀ (j : Nat),
 j < l.length →
 (nthD ((0 : Int), (0 : Int)) l j).snd =
 (nthD ((0 : Int), (0 : Int)) l j).snd) ∧
 True) ∧
 (N = N ∧ l.length = l.length) ∧
 ((0 : Nat) = (0 : Nat) ∧ True ∧ True) ∧
 (N.toNat = N.toNat ∧
 (∀ (j : Nat),
 j < N.toNat →
 (bif
 j.beq
 (nthD ((0 : Int), (0 : Int))
 (normL N (setF l))
 x_1).fst.toNat then
 (nthD []
 (rowsOf N.toNat
 (List.take x_1
 (normL N (setF l))))
 (nthD ((0 : Int), (0 : Int))
 (normL N (setF l))
 x_1).fst.toNat).length +
 (1 : Nat)
 else
 (nthD []
 (rowsOf N.toNat
 (List.take x_1
 (normL N (setF l))))
 j).length) =
 (nthD []
 (rowsOf N.toNat
 (List.take x_2
 (normL N (setF l))))
 j).length) ∧
 (∀ (j : Nat),
 j < N.toNat →
 ∀ (i : Nat),
 i <
 (nthD []
 (rowsOf N.toNat
 (List.take x_2
 (normL N (setF l))))
 j).length →
 (bif
 j.beq
 (nthD
 ((0 : Int),
 (0 : Int))
 (normL N
 (setF l))
 x_1).fst.toNat then
 fun (j : Nat) =>
 bif
 j.blt
 (nthD []
 (rowsOf N.toNat
 (List.take x_1
 (normL N
 (setF
 l))))
 (nthD
 ((0 :
 Int),
 (0 :
 Int))
 (normL N
 (setF
 l))
 x_1).fst.toNat).length then
 nthD (0 : Int)
 (nthD []
 (rowsOf N.toNat
 (List.take x_1
 (normL N
 (setF l))))
 (nthD
 ((0 : Int),
 (0 : Int))
 (normL N
 (setF l))
 x_1).fst.toNat)
 j
 else
 pickI
 [(nthD
 ((0 : Int),
 (0 : Int))
 (normL N
 (setF l))
 x_1).snd]
 (j -
 (nthD []
 (rowsOf N.toNat
 (List.take x_1
 (normL N
 (setF
 l))))
 (nthD
 ((0 :
 Int),
 (0 :
 Int))
 (normL N
 (setF
 l))
 x_1).fst.toNat).length)
 else fun (i : Nat) =>
 nthD (0 : Int)
 (nthD []
 (rowsOf N.toNat
 (List.take x_1
 (normL N
 (setF l))))
 j)
 i)
 i =
 nthD (0 : Int)
 (nthD []
 (rowsOf N.toNat
 (List.take x_2
 (normL N (setF l))))
 j)
 i) ∧
 True) ∧
 (∀ (x y : Int),
 setF
 (psK l)
 x y =
 setF
 (psK l)
 x y) ∧
 ((AV.ps (normL N (setF l))).len =
 (AV.ps (normL N (setF l))).len ∧
 (∀ (j : Nat),
 j < (AV.ps (normL N (setF l))).len →
 (nthD ((0 : Int), (0 : Int))
 (normL N (setF l)) j).fst =
 (nthD ((0 : Int), (0 : Int))
 (normL N (setF l)) j).fst) ∧
 (∀ (j : Nat),
 j <
 (AV.ps
 (normL N (setF l))).len →
 (nthD ((0 : Int), (0 : Int))
 (normL N (setF l))
 j).snd =
 (nthD ((0 : Int), (0 : Int))
 (normL N (setF l))
 j).snd) ∧
 True) ∧
 True) ∧
 (decide ((↑x_1 : Int) < (↑(AV.ps (normL N (setF l))).len : Int)) = false →
 N.toNat = (sucL N.toNat (setF l)).length ∧
 (((∀ (j : Nat),
 j < (sucL N.toNat (setF l)).length →
 (nthD [] (rowsOf N.toNat (List.take x_1 (normL N (setF l)))) j).length =
 (nthD [] (sucL N.toNat (setF l)) j).length) ∧
 (∀ (j : Nat),
 j < (sucL N.toNat (setF l)).length →
 ∀ (i : Nat),
 i < (nthD [] (sucL N.toNat (setF l)) j).length →
 nthD (0 : Int)
 (nthD [] (rowsOf N.toNat (List.take x_1 (normL N (setF l)))) j) i =
 nthD (0 : Int) (nthD [] (sucL N.toNat (setF l)) j) i) ∧
 True) ∧
 True) ∧
 N.toNat = (sucL N.toNat (setF l)).length)) := by kernel_rfl
theorem v53 (N : Int) (l : List Pq) (hv : validF N l = true) (hl : L9 l) : fnVc (tabK [kSet [], kNor [none, none, none, none, some (.mp (setF l)), some (.ps (normL N (setF l)))]] [(0, .of (lSuc N (normL N (setF l)) 16 3))] 5 (tkRow 6 3)) Try.f53 [rlV N 0 l] [arP l] (resIs (.sl 0 (sucL N.toNat (setF l)).length) 25 (sucL N.toNat (setF l)).length (rsCols (sucL N.toNat (setF l)))) := by
  rw [v53_eq]
  obtain ⟨h1, h2, h3⟩ := validF_iff.1 hv
  have hlen := norm_len (f := setF l) h2
  simp only [eq_self, true_and, and_true, implies_true, imp_self, psK_eq, mkN_ps, mkN_rs, mkN_self, mkN_len, PLoop.of, lCnt, lSuc, AV.len]
  refine ⟨by omega, by omega, by omega, hl, ⟨by omega, by omega⟩, (), ⟨0, by simp, rfl, fun j hj => ?_, fun j hj i hi => ?_⟩, fun i hi => ⟨fun hlt => ?_, fun hlt => ?_⟩⟩
  · rw [List.take_zero, nthD_rows hj]; rfl
  · rw [List.take_zero, nthD_rows hj] at hi; simp [secs] at hi
  · have hi2 := lt_len hlt
    have hm := nth_mem hi2
    generalize hp : nthD (0, 0) (normL N (setF l)) i = p at hm ⊢
    obtain ⟨x, y, hx, hy, hxy, rfl⟩ := mem_allL.1 hm
    simp only [Int.toNat_natCast]
    have key : ∀ j, j < N.toNat → nthD [] (rowsOf N.toNat (List.take (i + 1) (normL N (setF l)))) j = nthD [] (rowsOf N.toNat (List.take i (normL N (setF l)))) j ++ (if x = j then [(y : Int)] else []) := fun j hj => by
      rw [nthD_rows hj, nthD_rows hj, secs_take hi2, hp]
      congr 1
      by_cases e : x = j
      · subst e; simp
      · rw [if_neg e, if_neg (by simp only; omega)]
    have hr : (nthD [] (rowsOf N.toNat (List.take i (normL N (setF l)))) x).length ≤ 4096 := by
      rw [nthD_rows hx]
      exact Nat.le_trans secs_len (Nat.le_trans (by simp; omega) hlen)
    refine ⟨bd hi2, hi2, hx, by omega, hx, by omega, by omega, by omega, hx, i + 1, by omega, by omega, wrS (n := 4096) (by omega) (by omega), fun j hj => ?_, fun j hj k hk => ?_⟩
    · rw [key j hj]
      by_cases e : j = x
      · subst e; rw [beq_t, cond_true, if_pos rfl]; simp
      · rw [beq_f e, cond_false, if_neg (by omega), List.append_nil]
    · rw [key j hj] at hk ⊢
      by_cases e : j = x
      · subst e
        rw [beq_t, cond_true]
        rw [if_pos rfl] at hk ⊢
        by_cases hk2 : k < (nthD [] (rowsOf N.toNat (List.take i (normL N (setF l)))) j).length
        · rw [blt_t hk2, cond_true, nthD_lt _ hk2]
        · have e3 : k = (nthD [] (rowsOf N.toNat (List.take i (normL N (setF l)))) j).length := by simp at hk; omega
          rw [blt_f hk2, cond_false, e3, nthD_at, Nat.sub_self]
          rfl
      · rw [beq_f e, cond_false, if_neg (by omega), List.append_nil]
  · have hi2 := ge_len hlt hi
    rw [hi2, List.take_length, sucL_len]
    refine ⟨rfl, ⟨fun j hj => ?_, fun j hj k hk => ?_⟩, rfl⟩
    · rw [rows_norm hj]
    · rw [rows_norm hj]
theorem fo53 : fnOk Try.prog 53 := ⟨Try.f53, Try.func53, by kernel_rfl, by kernel_rfl⟩
def t53 : List AV → Tab
  | [.r N l] => tabK [kSet [], kNor [none, none, none, none, some (.mp (setF l)), some (.ps (normL N (setF l)))]] [(0, .of (lSuc N (normL N (setF l)) 16 3))] 5 (tkRow 6 3)
  | _ => tab [] []
theorem c53 : CallOk Try.prog [] 53 (genF EL [] [.r] sSuc) := by
  refine okT (fn := Try.f53) Try.func53 fo53 t53 (fun av => ?_) (fun av => ?_) (fun av pre rv h => ?_) (fun av pre rv h hp => ?_)
  · unfold t53; split <;> first | exact tabKOk (mOne (n56 _) (mOne (n55 _) mNil)) | exact tabOk mNil
  · unfold t53; split <;> exact ⟨rfl, rfl⟩
  · unfold sSuc at h; split at h <;> cases h
    exact ⟨rfl, fun t a e => by cases e <;> exact List.cons_ne_nil _ _⟩
  · unfold sSuc at h; split at h <;> cases h
    exact v53 _ _ (hp _ (.head _)) (hp _ (.tail _ (.head _)))
theorem n53 (nm : List (Option AV)) : CallOk Try.prog [] 53 (genF EL nm [.r] sSuc) := genNm c53
end Go.Proofs.Ytiokmglajigngaa
