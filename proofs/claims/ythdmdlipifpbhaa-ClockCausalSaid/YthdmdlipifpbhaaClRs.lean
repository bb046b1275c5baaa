/-
  The clock layer: Stamps of the reference: the loops.
-/
import Derived.Test.YthdmdlipifpbhaaCl5
import Derived.Test.YthdmdlipifpbhaaCl7
import Derived.Test.YthdmdlipifpbhaaClLaw3
namespace Go.Proofs.Ythdmdlipifpbhaa
open Go Go.Proofs.Ythdmdlipifpbhaa.Sx
def lastK (ag : List Int) (L : List (List Tk)) (i : Nat) : Nat → List Tk
  | 0 => []
  | k + 1 => bif inF ag k == inF ag i then nthC L k else lastK ag L i k
def lRo (ag fr : List Int) : LAnn := { X := Nat, inv := fun i => i ≤ ag.length, slots := fun i => [(7, .sl 3 (stL ag fr i).length), (8, .i .i64 i)], mem := fun i => [(3, .oarr 23 (stL ag fr i).length (rowsC (stL ag fr i)))], mu := fun i => ag.length - i, kill := [3] }
def lRi (ag fr : List Int) : PLoop := { Y := Nat, ann := fun i => { X := Nat, inv := fun k => k ≤ i, slots := fun k => [(9, .sl 4 (lastK ag (stL ag fr i) i k).length), (10, .i .i64 k)], mem := fun k => [(4, .arr (lastK ag (stL ag fr i) i k).length (clkCols (lastK ag (stL ag fr i) i k)))], mu := fun k => i - k, ren := [(4, 9)] } }
def cRs (ag fr : List Int) : Calling := [(16, rN1i 3 (fun l _ => L40 l) raL (newC ag fr)), (18, rN2 3 (fun a b => L40 a ∧ L40 b) rjL (nxtC ag fr))]
theorem mcRs (ag fr : List Int) : ∀ p ∈ cRs ag fr, CallOk Try.prog [] p.1 p.2 := mOne (okN1i c16) (mOne (okN2 c18) mNil)
end Go.Proofs.Ythdmdlipifpbhaa
