/-
  The clock layer: what the functions of the reference compute.
-/
import Derived.Test.YthdmdlipifpbhaaCl5
namespace Go.Proofs.Ythdmdlipifpbhaa
open Go Go.Proofs.Ythdmdlipifpbhaa.Sx
def agsF : Nat → List Tk → List Tk → List Int
  | 0, _, _ => []
  | f + 1, x :: a, [] => x.ag :: agsF f a []
  | _ + 1, [], [] => []
  | f + 1, [], y :: b => y.ag :: agsF f [] b
  | f + 1, x :: a, y :: b => bif decide (x.ag < y.ag) then x.ag :: agsF f a (y :: b) else bif x.ag == y.ag then y.ag :: agsF f a b else y.ag :: agsF f (x :: a) b
def agsL (a b : List Tk) : List Int := agsF (a.length + b.length) a b
structure ASt where
  i : Nat
  j : Nat
  f : Nat
  o : List Int
def lAgs (a b : List Tk) : LAnn := { X := ASt, inv := fun x => x.i ≤ a.length ∧ x.j ≤ b.length ∧ x.o.length ≤ x.i + x.j ∧ (a.length - x.i) + (b.length - x.j) ≤ x.f ∧ x.o ++ agsF x.f (a.drop x.i) (b.drop x.j) = agsL a b, slots := fun x => [(5, .sl 3 x.o.length), (6, .i .i64 x.i), (7, .i .i64 x.j)], mem := fun x => [(3, .oarr 3 x.o.length [.int .i64 (inF x.o)])], mu := fun x => (a.length - x.i) + (b.length - x.j), kill := [3] }
def rNI (L : List Int) : List MBlk → List SV → Option AR := fun m vs => match vs with
  | [x, y] => match ck m x, ck m y with
    | some (_, n, n', a), some (_, k, k', b) => some ⟨[n = n', k = k', L40 a ∧ L40 b, agsL a b = L], .sl m.length L.length, [.oarr 3 L.length [.int .i64 (inF L)]]⟩
    | _, _ => none
  | _ => none
def rjC (a b : List Tk) (L : List Int) (j : Nat) : Int := max2 (cntL a (inF L j)) (cntL b (inF L j))
def rmC (a b : List Tk) (L : List Int) (j : Nat) : Int := min2 (cntL a (inF L j)) (cntL b (inF L j))
def raC (c : List Tk) (x : Int) (L : List Int) (j : Nat) : Int := bif inF L j == x then w64 (cntL c (inF L j) + 1) else cntL c (inF L j)
def rjL (a b : List Tk) : List Tk := bif validL a && validL b then mkL (agsL a b).length (inF (agsL a b)) (rjC a b (agsL a b)) else []
def rmO (a b : List Tk) (L : List Int) : Nat → List Tk
  | 0 => []
  | i + 1 => bif decide (rmC a b L i > 0) then rmO a b L i ++ [⟨inF L i, rmC a b L i⟩] else rmO a b L i
def rmL (a b : List Tk) : List Tk := bif validL a && validL b then rmO a b (agsL a b) (agsL a b).length else []
def oneT (a : Int) : List Tk := [⟨a, 1⟩]
def raL (c : List Tk) (x : Int) : List Tk := bif validL c && !(cntL c x == 2147483647) then mkL (agsL c (oneT x)).length (inF (agsL c (oneT x))) (raC c x (agsL c (oneT x))) else []
def rlB (a b : List Tk) (i : Nat) : Bool := !(decide (ctF a i > cntL b (agF a i)))
def rlL (a b : List Tk) : Bool := validL a && (validL b && allN a.length (rlB a b))
def rcL (a b : List Tk) : Bool := validL a && (validL b && (!rlL a b && !rlL b a))
def lRj (a b : List Tk) (L : List Int) : LAnn := { X := Nat, inv := fun i => i ≤ L.length, slots := fun i => [(5, .sl 3 i), (7, .i .i64 i)], mem := fun i => [(3, .oarr 27 i [.int .i64 (inF L), .int .i64 (rjC a b L)])], mu := fun i => L.length - i, kill := [3] }
def lRm (a b : List Tk) (L : List Int) : LAnn := { X := Nat, inv := fun i => i ≤ L.length ∧ (rmO a b L i).length ≤ i, slots := fun i => [(5, .sl 3 (rmO a b L i).length), (7, .i .i64 i)], mem := fun i => [(3, .oarr 27 (rmO a b L i).length (clkCols (rmO a b L i)))], mu := fun i => L.length - i, kill := [3] }
def lRa (c : List Tk) (x : Int) (L : List Int) : LAnn := { X := Nat, inv := fun i => i ≤ L.length, slots := fun i => [(5, .sl 2 i), (7, .i .i64 i)], mem := fun i => [(2, .oarr 27 i [.int .i64 (inF L), .int .i64 (raC c x L)])], mu := fun i => L.length - i, kill := [2] }
def lRl (a b : List Tk) : LAnn := { X := Nat, inv := fun i => i ≤ a.length ∧ ∀ i', i' < i → rlB a b i' = true, slots := fun i => [(5, .i .i64 i)], mem := fun _ => [], mu := fun i => a.length - i }
end Go.Proofs.Ythdmdlipifpbhaa
