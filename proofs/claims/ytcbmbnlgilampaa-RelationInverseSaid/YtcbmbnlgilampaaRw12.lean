/-
  A part of the proof (Rw12).
-/
import Derived.Test.YtcbmbnlgilampaaRw11
namespace Go.Proofs.Ytcbmbnlgilampaa
open Go Go.Proofs.Ytcbmbnlgilampaa.Sx
def lCls (R : List (List Int)) (N : Int) (t e : Nat) : LAnn := lCnt N.toNat t (fun _ => True) (fun k => [(e, .mapp (clsG R N.toNat k))]) []
def tabC (calls : Calling) (R : List (List Int)) (F : Nat) (loops : List (Nat × PLoop)) : Tab := ⟨tyTab, [], calls, loops, [kVis R F], [], []⟩
def sCls : Sp := fun | [.r N l] => some ([validF N l = true, L9 l], .mp (wF (setF l) N.toNat)) | _ => none
def kCls (nm : List (Option AV)) : Nat × (List MBlk → List SV → Option AR) := (38, genF EL nm [.r] sCls)
end Go.Proofs.Ytcbmbnlgilampaa
