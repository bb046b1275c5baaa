/-
  The clock layer: the loops of reaches.
-/
import Derived.Test.YthdmdlipifpbhaaClCau
namespace Go.Proofs.Ythdmdlipifpbhaa
open Go Go.Proofs.Ythdmdlipifpbhaa.Sx
def lRa1 (ag fr : List Int) (i : Nat) : LAnn := { X := Nat, inv := fun t => i + t ≤ ag.length, slots := fun t => [(8, .i .i64 ((i + t : Nat) : Int))], mem := fun t => [(3, .oarr 4 ag.length [.bool (rF ag fr i t)])], mu := fun t => ag.length - t }
def rMid (ag fr : List Int) (i t s : Nat) (x : Nat) : Bool := bif Nat.beq x (i + t) then rIn ag fr i (rF ag fr i t) (i + t) s else rF ag fr i t x
def lRa2 (ag fr : List Int) (i : Nat) : PLoop := { Y := Nat, ann := fun t => { X := Nat, inv := fun s => s ≤ t, slots := fun s => [(9, .i .i64 ((i + s : Nat) : Int))], mem := fun s => [(3, .oarr 4 ag.length [.bool (rMid ag fr i t s)])], mu := fun s => t - s } }
end Go.Proofs.Ythdmdlipifpbhaa
