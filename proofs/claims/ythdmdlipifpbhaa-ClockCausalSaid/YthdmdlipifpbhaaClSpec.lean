/-
  The clock layer: what the functions compute.
-/
import Derived.Test.YthdmdlipifpbhaaClBase
namespace Go.Proofs.Ythdmdlipifpbhaa
open Go Go.Proofs.Ythdmdlipifpbhaa.Sx
def allN : Nat → (Nat → Bool) → Bool
  | 0, _ => true
  | n + 1, p => allN n p && p n
theorem allN_iff {n : Nat} {p : Nat → Bool} : allN n p = true ↔ ∀ i, i < n → p i = true := by
  induction n with
  | zero => simp [allN]
  | succ n ih =>
    simp only [allN, Bool.and_eq_true, ih]
    constructor
    · rintro ⟨h1, h2⟩ i hi
      by_cases e : i = n
      · subst e; exact h2
      · exact h1 i (by omega)
    · intro h
      exact ⟨fun i hi => h i (by omega), h n (by omega)⟩
theorem allN_no {n i : Nat} {p : Nat → Bool} (hi : i < n) (h : p i = false) : allN n p = false := by
  cases e : allN n p
  · rfl
  · rw [allN_iff.1 e i hi] at h; cases h
/-- Short enough. -/
def L40 (l : List Tk) : Prop := l.length ≤ 1099511627776
def okT (l : List Tk) (i : Nat) : Bool := !(decide (ctF l i < 1)) && !(decide (ctF l i > 2147483647)) && !(decide ((i : Int) > 0) && decide (agF l (i - 1) ≥ agF l i))
def validL (l : List Tk) : Bool := allN l.length (okT l)
def cntL : List Tk → Int → Int
  | [], _ => 0
  | x :: r, a => bif x.ag == a then x.ct else cntL r a
def getL (l : List Tk) (a : Int) : Int := bif validL l then cntL l a else 0
def sameAt (a b : List Tk) (i : Nat) : Bool := agF a i == agF b i && ctF a i == ctF b i
def sameL (a b : List Tk) : Bool := decide (a.length = b.length) && allN a.length (sameAt a b)
/-- advanced, round by round: whether the agent is in; the ticks. -/
def advD (l : List Tk) (a : Int) : Nat → Bool
  | 0 => false
  | i + 1 => advD l a i || decide (agF l i ≥ a)
def advO (l : List Tk) (a : Int) : Nat → List Tk
  | 0 => []
  | i + 1 => bif !(advD l a i) && decide (agF l i ≥ a) then (bif agF l i == a then advO l a i ++ [⟨agF l i, w64 (ctF l i + 1)⟩] else (advO l a i ++ [⟨a, 1⟩]) ++ [⟨agF l i, ctF l i⟩]) else advO l a i ++ [⟨agF l i, ctF l i⟩]
def advL (l : List Tk) (a : Int) : List Tk := bif advD l a l.length then advO l a l.length else advO l a l.length ++ [⟨a, 1⟩]
def advanceL (l : List Tk) (a : Int) : List Tk := bif validL l && !(cntL l a == 2147483647) then advL l a else []
def skipF (b : List Tk) (x : Int) : Nat → Nat → Nat
  | 0, j => j
  | f + 1, j => bif decide ((j : Int) < (b.length : Int)) && decide (agF b j < x) then skipF b x f (j + 1) else j
def skipJ (b : List Tk) (x : Int) (j : Nat) : Nat := skipF b x (b.length - j) j
def belJ (a b : List Tk) : Nat → Nat
  | 0 => 0
  | i + 1 => skipJ b (agF a i) (belJ a b i)
def belB (a b : List Tk) (i : Nat) : Bool := !((belJ a b (i + 1) : Int) == (b.length : Int) || agF b (belJ a b (i + 1)) != agF a i) && !(!(agF b (belJ a b (i + 1)) == agF a i && ctF b (belJ a b (i + 1)) == ctF a i) && decide (ctF b (belJ a b (i + 1)) < ctF a i))
def belL (a b : List Tk) : Bool := allN a.length (belB a b)
def lessL (a b : List Tk) : Bool := validL a && (validL b && belL a b)
def concL (a b : List Tk) : Bool := validL a && (validL b && (!belL a b && !belL b a))
def min2 (x y : Int) : Int := if y < x then y else x
def max2 (x y : Int) : Int := if y > x then y else x
def metO (a b : List Tk) : Nat → List Tk
  | 0 => []
  | i + 1 => bif decide ((belJ a b (i + 1) : Int) < (b.length : Int)) && agF b (belJ a b (i + 1)) == agF a i then metO a b i ++ [⟨agF a i, min2 (ctF a i) (ctF b (belJ a b (i + 1)))⟩] else metO a b i
def meetL (a b : List Tk) : List Tk := bif validL a && validL b then metO a b a.length else []
def joinF : Nat → List Tk → List Tk → List Tk
  | 0, a, b => a ++ b
  | _ + 1, [], b => b
  | _ + 1, x :: a, [] => x :: a
  | f + 1, x :: a, y :: b => bif x.ag == y.ag && x.ct == y.ct then x :: joinF f a b else bif decide (x.ag < y.ag) then x :: joinF f a (y :: b) else bif decide (x.ag > y.ag) then y :: joinF f (x :: a) b else ⟨x.ag, max2 x.ct y.ct⟩ :: joinF f a b
def joinL (a b : List Tk) : List Tk := joinF (a.length + b.length) a b
def jnL (a b : List Tk) : List Tk := bif validL a && validL b then joinL a b else []

/-! ### The loops -/
def lVal (l : List Tk) (s : Nat) : LAnn := { X := Nat, inv := fun i => i ≤ l.length ∧ ∀ i', i' < i → okT l i' = true, slots := fun i => [(s, .i .i64 i)], mem := fun _ => [], mu := fun i => l.length - i }
def lCnt (l : List Tk) (a : Int) (s : Nat) : LAnn := { X := Nat, inv := fun i => i ≤ l.length ∧ ∀ i', i' < i → (agF l i' == a) = false, slots := fun i => [(s, .i .i64 i)], mem := fun _ => [], mu := fun i => l.length - i }
def lSame (a b : List Tk) : LAnn := { X := Nat, inv := fun i => i ≤ a.length ∧ ∀ i', i' < i → sameAt a b i' = true, slots := fun i => [(5, .i .i64 i)], mem := fun _ => [], mu := fun i => a.length - i }
def lAdv (l : List Tk) (a : Int) : LAnn := { X := Nat, inv := fun i => i ≤ l.length, slots := fun i => [(5, .sl 2 (advO l a i).length), (6, .b (advD l a i)), (15, .i .i64 i)], mem := fun i => [(2, .oarr 27 (advO l a i).length (clkCols (advO l a i)))], mu := fun i => l.length - i, kill := [2] }
def lBel (a b : List Tk) : LAnn := { X := Nat, inv := fun i => i ≤ a.length ∧ belJ a b i ≤ b.length ∧ ∀ i', i' < i → belB a b i' = true, slots := fun i => [(5, .i .i64 (belJ a b i)), (10, .i .i64 i)], mem := fun _ => [], mu := fun i => a.length - i }
def lBel2 (a b : List Tk) (s : Nat) : PLoop := { Y := Nat, ann := fun i => { X := Nat, inv := fun j => j ≤ b.length ∧ skipJ b (agF a i) j = belJ a b (i + 1), slots := fun j => [(s, .i .i64 j)], mem := fun _ => [], mu := fun j => b.length - j } }
def lMet (a b : List Tk) : LAnn := { X := Nat, inv := fun i => i ≤ a.length ∧ belJ a b i ≤ b.length ∧ (metO a b i).length ≤ i, slots := fun i => [(5, .sl 3 (metO a b i).length), (6, .i .i64 (belJ a b i)), (19, .i .i64 i)], mem := fun i => [(3, .oarr 27 (metO a b i).length (clkCols (metO a b i)))], mu := fun i => a.length - i, kill := [3] }
structure JSt where
  i : Nat
  j : Nat
  f : Nat
  o : List Tk
def lJoin (a b : List Tk) : LAnn := { X := JSt, inv := fun x => x.i ≤ a.length ∧ x.j ≤ b.length ∧ x.o.length ≤ x.i + x.j ∧ (a.length - x.i) + (b.length - x.j) ≤ x.f ∧ x.o ++ joinF x.f (a.drop x.i) (b.drop x.j) = joinL a b, slots := fun x => [(5, .sl 3 x.o.length), (6, .i .i64 x.i), (7, .i .i64 x.j)], mem := fun x => [(3, .oarr 27 x.o.length (clkCols x.o))], mu := fun x => (a.length - x.i) + (b.length - x.j), kill := [3] }
end Go.Proofs.Ythdmdlipifpbhaa
