/-
  A part of the proof (Rw29).
-/
import Derived.Test.YtcbmbnlgilampaaRw28
namespace Go.Proofs.Ytcbmbnlgilampaa
open Go Go.Proofs.Ytcbmbnlgilampaa.Sx
def o (l : List Pq) : Option AV := some (.ps l)
def vN (N : Int) (l : List Pq) : Int := bif validF N l then N else 0
def bN (A : Int) (a : List Pq) (B : Int) (b : List Pq) : Int := bif bothF A a B b then A else 0
def lRdn (D : List Pq) (N : Int) (TW : List Pq) (t : Nat) : LAnn := lCnt D.length t (fun _ => True) (fun _ => []) []
end Go.Proofs.Ytcbmbnlgilampaa
