/-
  The linext layer: chains: what is computed.
-/
import Derived.Test.YtiokmglajigngaaV23
namespace Go.Proofs.Ytiokmglajigngaa
open Go Go.Proofs.Ytiokmglajigngaa.Sx
/-- Binomial coefficients. -/
def cho : Nat → Nat → Nat
  | _, 0 => 1
  | 0, _ + 1 => 0
  | n + 1, k + 1 => cho n k + cho n (k + 1)
def choL (n j : Nat) : List Int := (List.range j).map (fun k : Nat => (cho n k : Int))
def sCho : Sp := fun | [.i n, .i k] => some ([0 ≤ n ∧ n ≤ 64, 0 ≤ k ∧ k ≤ n], .pl (.i .i64 (cho n.toNat k.toNat : Int))) | _ => none
def kCho (nm : List (Option AV)) : Nat × (List MBlk → List SV → Option AR) := (26, genF EL nm [.i, .i] sCho)
def arJ (l : List Int) : MBlk := .arr l.length (isCols l)
def lCo (n : Nat) : LAnn := ⟨Nat, fun i => i ≤ n, fun i => [(6, .i .i64 (i : Int)), (5, .sl 0 (i + 1))], fun i => [(0, .arr (i + 1) (isCols (choL i (i + 1))))], fun i => n - i, [], [(0, 5)]⟩
def lCi (n : Nat) : PLoop := ⟨Nat, fun i => ⟨Nat, fun j => j ≤ i ∧ i < n, fun j => [(8, .i .i64 ((j + 1 : Nat) : Int)), (7, .sl 1 (j + 1))], fun j => [(1, .oarr 3 (j + 1) (isCols (choL (i + 1) (j + 1))))], fun j => i - j, [1], []⟩⟩
def ghC (r : Nat) : List Slot → List MBlk → List Gh := fun _ _ => [.freeze r]
/-- The pairs of three chains, up to number i. -/
def triP (a b : Nat) : Nat → List Pq
  | 0 => []
  | i + 1 => triP a b i ++ bif Nat.beq i 0 || Nat.beq i a || Nat.beq i (a + b) then [] else [((i : Int) - 1, (i : Int))]
def lTr (a b N : Nat) (t e c : Nat) : LAnn := ⟨Nat, fun i => i + 1 ≤ N ∨ i = 0, fun i => [(t, .i .i64 ((i + 1 : Nat) : Int))], fun i => [(c, .cells [.i .i64 (N : Int), .sl e (triP a b (i + 1)).length]), (e, .oarr 40 (triP a b (i + 1)).length (psCols (triP a b (i + 1))))], fun i => N - i, [e], []⟩
end Go.Proofs.Ytiokmglajigngaa
