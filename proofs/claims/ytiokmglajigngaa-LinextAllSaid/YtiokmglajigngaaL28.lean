/-
  The linext layer: the reference's extensions.
-/
import Derived.Test.YtiokmglajigngaaL27
namespace Go.Proofs.Ytiokmglajigngaa
open Go Go.Proofs.Ytiokmglajigngaa.Sx
def sExt (F : Nat) : Sp := fun | [.r N l, .is P, .i m] => some ([validF N l = true, L9 l, L9 P, ∀ y ∈ P, 0 ≤ y ∧ y < N, P.length ≤ N.toNat, N.toNat < P.length + F, 1 ≤ m, m ≤ 1048577], .sl (fun k => .sl 0 k) (.rs ((extP N l P).take m.toNat))) | _ => none
def kExt (F : Nat) (nm : List (Option AV)) : Nat × (List MBlk → List SV → Option AR) := (41, genF EL nm [.r, .is, .i] (sExt F))
def exX (N : Int) (l : List Pq) (P : List Int) (m i : Nat) : List (List Int) := (((nxtL N l P).take i).flatMap (fun x => extP N l (P ++ [x]))).take m
def lEx (N : Int) (l : List Pq) (P : List Int) (m : Int) (e : Nat) : LAnn := ⟨Nat, fun i => i ≤ (nxtL N l P).length, fun i => [(9, .i .i64 (i : Int)), (7, .sl e (exX N l P m.toNat i).length)], fun i => [(e, .oarr 25 (exX N l P m.toNat i).length (rsCols (exX N l P m.toNat i)))], fun i => (nxtL N l P).length - i, [e], []⟩
end Go.Proofs.Ytiokmglajigngaa
