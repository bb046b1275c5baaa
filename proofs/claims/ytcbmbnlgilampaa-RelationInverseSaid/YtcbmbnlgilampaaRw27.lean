/-
  A part of the proof (Rw27).
-/
import Derived.Test.YtcbmbnlgilampaaRw26
namespace Go.Proofs.Ytcbmbnlgilampaa
open Go Go.Proofs.Ytcbmbnlgilampaa.Sx
def exR : List Pq := [(0, 1), (1, 2), (0, 2)]
def exD : List Pq := [(0, 1), (1, 2)]
def exC : List Pq := [(2, 1), (1, 2), (0, 1)]
def exL : List Pq := [(0, 1), (0, 2), (1, 2)]
def sExa : Sp := fun | [] => some ([], .pl (.b true)) | _ => none
def kExa (nm : List (Option AV)) : Nat × (List MBlk → List SV → Option AR) := (10, genF EL nm [] sExa)

def kHas (nm : List (Option AV)) : Nat × (List MBlk → List SV → Option AR) := (23, genF EL nm [.r, .i, .i] sHas)
def kHas' (nm : List (Option AV)) : Nat × (List MBlk → List SV → Option AR) := (24, genF EL nm [.r, .i, .i] sHas)
end Go.Proofs.Ytcbmbnlgilampaa
