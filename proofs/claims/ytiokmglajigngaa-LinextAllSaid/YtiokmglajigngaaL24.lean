/-
  The linext layer: the laws' loops.
-/
import Derived.Test.YtiokmglajigngaaL23
namespace Go.Proofs.Ytiokmglajigngaa
open Go Go.Proofs.Ytiokmglajigngaa.Sx
def lRw (n : Nat) : LAnn := lCnt n 9 (fun _ => True) (fun _ => []) []
def facN : Nat → Nat
  | 0 => 1
  | n + 1 => (n + 1) * facN n
def idL (n : Nat) : List Int := (List.range n).map (fun i : Nat => (i : Int))
def lFe (n : Nat) (e : Nat) : LAnn := ⟨Nat, fun i => i ≤ n, fun i => [(7, .i .i64 (i : Int)), (4, .sl e i), (5, .i .i64 ((2 ^ i : Nat) : Int)), (6, .i .i64 (facN i : Int))], fun i => [ownI e (idL i)], fun i => n - i, [e], []⟩
end Go.Proofs.Ytiokmglajigngaa
