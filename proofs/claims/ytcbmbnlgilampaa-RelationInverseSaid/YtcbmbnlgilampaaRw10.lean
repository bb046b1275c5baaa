/-
  The relation layer: the closure's walk.
-/
import Derived.Test.YtcbmbnlgilampaaRw9
namespace Go.Proofs.Ytcbmbnlgilampaa
open Go Go.Proofs.Ytcbmbnlgilampaa.Sx

def rowN (R : List (List Int)) (b : Int) : List Int := nthD [] R b.toNat
def visF : SV := .fn 46 [.ptr 0 0, .ptr 1 0, .ptr 2 0, .ptr 3 0]
def visM (R : List (List Int)) (a : Int) (s : Pf) : List MBlk := [.cells [.sl 5 R.length], .cells [.i .i64 a], .cells [.mp 4], .cells [visF], .mapp s, .oarr 26 R.length (rsCols R)]
def visV (b : Int) : List SV := [.i .i64 b, .ptr 0 0, .ptr 1 0, .ptr 2 0, .ptr 3 0]
def visUp (R : List (List Int)) (a : Int) (s : Pf) : List (Nat × MBlk) := [(0, .cells [.sl 5 R.length]), (1, .cells [.i .i64 a]), (2, .cells [.mp 4]), (3, .cells [visF]), (4, .mapp s), (5, .oarr 26 R.length (rsCols R))]
def kVisF (R : List (List Int)) (F : Nat) : List MBlk → List SV → Option BRes
  | m, [.i .i64 b, .ptr e1 0, .ptr e2 0, .ptr e3 0, .ptr e4 0] => match nth m e1, nth m e2, nth m e3, nth m e4 with
    | some (.cells [.sl r n]), some (.cells [.i .i64 a]), some (.cells [.mp q]), some (.cells [.fn 46 [.ptr p1 0, .ptr p2 0, .ptr p3 0, .ptr p4 0]]) => match nth m r, nth m q with
      | some (.oarr 26 n' [.rows len [g]]), some (.mapp s) =>
        bif Nat.beq p1 e1 && Nat.beq p2 e2 && Nat.beq p3 e3 && Nat.beq p4 e4 && nodupN [e1, e2, e3, e4, q, r] then
          some (tB [e1, e2, e3, e4, q, r] [] (visUp R a (dfs R a F b s)) (.tup []) [n = R.length, n' = R.length, len = (fun j => (nthD [] R j).length), g = (fun j i => nthD 0 (nthD [] R j) i), 0 ≤ b ∧ b < (R.length : Int), unv R.length s a < F])
        else none
      | _, _ => none
    | _, _, _, _ => none
  | _, _ => none
def kVis (R : List (List Int)) (F : Nat) : Nat × (List MBlk → List SV → Option BRes) := (46, kVisF R F)
def lVis (R : List (List Int)) (F : Nat) (a b : Int) (s : Pf) : LAnn := lCnt (rowN R b).length 14 (fun _ => True) (fun i => [(4, .mapp (((rowN R b).take i).foldl (dstep R a F) s))]) []
def visPost (R : List (List Int)) (a : Int) (s : Pf) : SV → List MBlk → Prop := fun sv m' => veq (.tup []) sv ∧ memAll (expGo (visUp R a s) 0 6) m'
def tabV (R : List (List Int)) (F : Nat) (loops : List (Nat × PLoop)) (pins : List (Nat × (Option Addr × Nat))) : Tab := ⟨tyTab, [], [], loops, [kVis R F], pins, []⟩
end Go.Proofs.Ytcbmbnlgilampaa
