/-
  A part of the proof (Rw24).
-/
import Derived.Test.YtcbmbnlgilampaaRw23
namespace Go.Proofs.Ytcbmbnlgilampaa
open Go Go.Proofs.Ytcbmbnlgilampaa.Sx
/-- The best start of a cycle among the numbers below k, and its cycle's length. -/
def cyG (f : Pf) (n : Nat) : Nat → Int × Int
  | 0 => (-1, 0)
  | k + 1 => bif disG f n k n k != 0 && (decide ((cyG f n k).1 < 0) || decide (disG f n k n k < (cyG f n k).2)) then ((k : Int), disG f n k n k) else cyG f n k
def farP (f : Pf) (n k : Nat) : List Int := bif decide ((cyG f n k).1 < 0) then [] else disP n (disG f n (cyG f n k).1 n)
def farR (f : Pf) (n k : Nat) : List Int := bif decide ((cyG f n k).1 < 0) then [] else disR n (disG f n (cyG f n k).1 n)
def fit (f : Pf) (o : Nat → Int) (left at_ : Int) (b : Nat) : Bool := f at_ b && o b == left
def nxt (f : Pf) (n : Nat) (o : Nat → Int) (left at_ : Int) : Int := match (List.range n).find? (fit f o left at_) with
  | some b => (b : Int)
  | none => at_
def pth (f : Pf) (n : Nat) (o : Nat → Int) (s L : Int) : Nat → Int
  | 0 => s
  | k + 1 => nxt f n o (L - ((k + 1 : Nat) : Int)) (pth f n o s L k)
/-- The path of a relation's cycle. -/
def cyS (N : Int) (l : List Pq) : Int := (cyG (setF l) N.toNat N.toNat).1
def cyN (N : Int) (l : List Pq) : Int := (cyG (setF l) N.toNat N.toNat).2
def cyO (N : Int) (l : List Pq) : Nat → Int := disG (setF l) N.toNat (cyS N l) N.toNat
def cyP (N : Int) (l : List Pq) : Nat → Int := pth (setF l) N.toNat (cyO N l) (cyS N l) (cyN N l)
def fndF (N : Int) (l : List Pq) : Bool := validF N l && decide (0 ≤ cyS N l)
def cycL (N : Int) (l : List Pq) : List Int := bif fndF N l then mkN (cyP N l) (cyN N l).toNat else []
def tupB (x : SV) (b : Bool) : SV := .tup [x, .b b]
def sCyc : Sp := fun | [.r N l] => some ([L9 l], .sl (fun k => tupB (.sl 0 k) (fndF N l)) (.is (cycL N l))) | _ => none
def kCyc (nm : List (Option AV)) : Nat × (List MBlk → List SV → Option AR) := (11, genF EL nm [.r] sCyc)
def kCyc' (nm : List (Option AV)) : Nat × (List MBlk → List SV → Option AR) := (12, genF EL nm [.r] sCyc)
def lCy0 (f : Pf) (n : Nat) : LAnn := ⟨Nat, fun k => k ≤ n, fun k => [(22, .i .i64 (k : Int)), (5, .i .i64 (cyG f n k).1), (6, .i .i64 (cyG f n k).2), (7, .sl 4 (farP f n k).length)], fun k => [(4, .arr (farP f n k).length (isCols (farP f n k)))], fun k => n - k, [], [(4, 7)]⟩
def lCy0' (f : Pf) (n : Nat) : LAnn := ⟨Nat, fun k => k ≤ n, fun k => [(7, .i .i64 (k : Int)), (5, .i .i64 (cyG f n k).1), (6, .sl 4 (farR f n k).length)], fun k => [(4, .arr (farR f n k).length (isCols (farR f n k)))], fun k => n - k, [], [(4, 6)]⟩
def pthL (p : Nat → Int) (k : Nat) : List Int := mkN p k
def lCy2 (p : Nat → Int) (L : Int) : LAnn := ⟨Nat, fun i => i + 1 ≤ L.toNat, fun i => [(10, .sl 5 (pthL p (i + 1)).length), (11, .i .i64 (p i))], fun i => [(5, .oarr 3 (pthL p (i + 1)).length (isCols (pthL p (i + 1))))], fun i => L.toNat - i, [5], []⟩
def lCy2' (p : Nat → Int) (L : Int) : LAnn := ⟨Nat, fun i => i + 1 ≤ L.toNat, fun i => [(9, .sl 5 (pthL p (i + 1)).length), (10, .i .i64 (p i)), (11, .i .i64 (L - 1 - (i : Int)))], fun i => [(5, .oarr 3 (pthL p (i + 1)).length (isCols (pthL p (i + 1))))], fun i => L.toNat - i, [5], []⟩
def lCy4 (R : List (List Int)) (o : Nat → Int) (p : Nat → Int) (L : Int) : PLoop := ⟨Nat, fun i => ⟨Nat, fun k => k ≤ (rowN R (p i)).length ∧ ((rowN R (p i)).take k).all (fun b => o b.toNat != L - ((i + 1 : Nat) : Int)) = true, fun k => [(71, .i .i64 (k : Int))], fun _ => [], fun k => (rowN R (p i)).length - k, [], []⟩⟩
def lCy4' (f : Pf) (n : Nat) (o : Nat → Int) (p : Nat → Int) (L : Int) : PLoop := ⟨Nat, fun i => ⟨Nat, fun k => k < n ∧ (List.range k).all (fun b => !fit f o (L - ((i + 1 : Nat) : Int)) (p i) b) = true, fun k => [(12, .i .i64 (k : Int))], fun _ => [], fun k => n - k, [], []⟩⟩
end Go.Proofs.Ytcbmbnlgilampaa
