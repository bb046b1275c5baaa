/-
  The linext layer: the reference's levels: what is computed.
-/
import Derived.Test.YtiokmglajigngaaU16
namespace Go.Proofs.Ytiokmglajigngaa
open Go Go.Proofs.Ytiokmglajigngaa.Sx
def tabQ (calls : Calling) (cb : List (Nat × (List MBlk → List SV → Option BRes))) (loops : List (Nat × PLoop)) (takes : List (Nat × (List Slot → List MBlk → List Gh))) : Tab := ⟨tyTab, [], calls, loops, cb, [], takes, []⟩
/-- Bit x of the set s, as the program looks at it. -/
def bitS (s x : Int) : Int := bits .and .u64 (s / 2 ^ (IntKind.u64.wrap x).toNat) 1
def canF (l : List Pq) (s x : Int) : Bool := !(bitS s x == 1) && l.all (fun p => !(p.2 == x && bitS s p.1 == 0))
def sCan : Sp := fun | [.r N l, .u s, .i x] => some ([L9 l, 0 ≤ x ∧ x < 64, ∀ p ∈ l, 0 ≤ p.1 ∧ p.1 < 64], .pl (.b (canF l s x))) | _ => none
def kCan (nm : List (Option AV)) : Nat × (List MBlk → List SV → Option AR) := (48, genF EL nm [.r, .u, .i] sCan)
def lCan (l : List Pq) (s x : Int) (t : Nat) : LAnn := lCnt l.length t (fun i => (l.take i).all (fun p => !(p.2 == x && bitS s p.1 == 0)) = true) (fun _ => []) []
/-- One set more, with the number of sequences that lead to it. -/
def addL : List Pq → Int → Int → List Pq
  | [], s, w => [(s, w)]
  | p :: r, s, w => bif p.1 == s then (p.1, p.2 + w) :: r else p :: addL r s w
def orS (s : Int) (k : Nat) : Int := bits .or .u64 s (IntKind.u64.wrap (1 * 2 ^ (IntKind.u64.wrap (k : Int)).toNat))
def lvK (l : List Pq) (L : List Pq) (s w : Int) : Nat → List Pq
  | 0 => L
  | k + 1 => bif canF l s k then addL (lvK l L s w k) (orS s k) w else lvK l L s w k
def lvI (N : Int) (l : List Pq) (P : List Pq) : Nat → List Pq
  | 0 => []
  | i + 1 => lvK l (lvI N l P i) (nthD (0, 0) P i).1 (nthD (0, 0) P i).2 N.toNat
/-- The sets of n elements. -/
def lvN (N : Int) (l : List Pq) : Nat → List Pq
  | 0 => [(0, 1)]
  | n + 1 => lvI N l (lvN N l n) (lvN N l n).length
/-- The number of sets of at most n elements. -/
def lvT (N : Int) (l : List Pq) : Nat → Nat
  | 0 => 1
  | n + 1 => lvT N l n + (lvN N l (n + 1)).length
def waysL (L : List Pq) : List Int := L.map (fun p => p.2)
def setC (L : List Pq) : List Col := [.int .u64 (fun j => (nthD (0, 0) L j).1)]
def wayC (L : List Pq) : List Col := [.int .i64 (fun j => (nthD (0, 0) L j).2)]
def lvV (p q n : Nat) : SV := .agg [.sl p n, .sl q n, .ff]
def addUp (L : List Pq) : List (Nat × MBlk) := [(0, .oarr 54 L.length (setC L)), (1, .oarr 3 L.length (wayC L))]
def addM (g h : Nat → Int) (n : Nat) : List MBlk := [.oarr 54 n [.int .u64 g], .oarr 3 n [.int .i64 h]]
def addP (L : List Pq) (w : Int) : List Prop := [L9 L, 0 ≤ w ∧ w ≤ 1099511627776, ∀ p ∈ L, 0 ≤ p.2 ∧ p.2 ≤ 1099511627776]
def kAdd : List MBlk → List SV → Option BRes
  | m, [.agg [.sl p n, .sl q n2, .ff], .i .u64 s, .i .i64 w] => match nth m p, nth m q with
    | some (.oarr 54 n' [.int .u64 g]), some (.oarr 3 n2' [.int .i64 h]) => bif nodupN [p, q] then
        some (tB [p, q] [0, 1] (addUp (addL (mkN (fun j => (g j, h j)) n') s w)) (lvV 0 1 (addL (mkN (fun j => (g j, h j)) n') s w).length) ([n = n', n2 = n', n2' = n'] ++ addP (mkN (fun j => (g j, h j)) n') w)) else none
    | _, _ => none
  | _, _ => none
def lAdd (g : Nat → Int) (n : Nat) (s : Int) (t : Nat) : LAnn := lCnt n t (fun k => ∀ j, j < k → g j ≠ s) (fun _ => []) []
def addPost (L : List Pq) : SV → List MBlk → Prop := fun sv m' => veq (lvV 0 1 L.length) sv ∧ memAll (expGo (addUp L) 0 2) m'
/-! The levels -/
def lvMem (p q c : Nat) (L : List Pq) : List (Nat × MBlk) := [(p, .oarr 54 L.length (setC L)), (q, .oarr 3 L.length (wayC L)), (c, .cells [.sl p L.length, .sl q L.length, .ff])]
def lLv0 (N : Int) (l : List Pq) : LAnn := ⟨Nat, fun n => n ≤ N.toNat, fun n => [(6, .i .i64 (lvT N l n : Int)), (7, .i .i64 (n : Int))], fun n => lvMem 3 4 5 (lvN N l n), fun n => N.toNat - n, [3, 4], [(3, 2000500), (4, 2000501)]⟩
def lLv2 (N : Int) (l : List Pq) : PLoop := ⟨Nat, fun n => ⟨Nat, fun i => i ≤ (lvN N l n).length ∧ n < N.toNat, fun i => [(9, .i .i64 (i : Int))], fun i => lvMem 7 8 6 (lvI N l (lvN N l n) i), fun i => (lvN N l n).length - i, [7, 8], []⟩⟩
def lLv4 (N : Int) (l : List Pq) : PLoop := ⟨Nat × Nat, fun ni => ⟨Nat, fun k => k ≤ N.toNat ∧ ni.2 < (lvN N l ni.1).length ∧ ni.1 < N.toNat, fun k => [(10, .i .i64 (k : Int))], fun k => lvMem 7 8 6 (lvK l (lvI N l (lvN N l ni.1) ni.2) (nthD (0, 0) (lvN N l ni.1) ni.2).1 (nthD (0, 0) (lvN N l ni.1) ni.2).2 k), fun k => N.toNat - k, [7, 8], []⟩⟩
def ghLv : List Gh := [.fresh 6 0 54 1, .fresh 6 1 3 1, .cols 7 [.int .u64 (fun _ => 0)], .cols 8 [.int .i64 (fun _ => 0)]]
def sLev : Sp := fun | [.r N l] => some ([L9 l, okP N l = true, N ≤ 9], .tw (.i .i64 ((dsE (befP N l)).length : Int)) .tt .ff [(cmp (befP N l) 0 : Int)]) | _ => none
def kLev (nm : List (Option AV)) : Nat × (List MBlk → List SV → Option AR) := (43, genF EL nm [.r] sLev)
def sDwR : Sp := fun | [.r N l] => some ([L9 l, N ≤ 9], .pl (.tup [.i .i64 (dwnV N l : Int), .i .i64 (dwnE N l)])) | _ => none
def kDwR (nm : List (Option AV)) : Nat × (List MBlk → List SV → Option AR) := (23, genF EL nm [.r] sDwR)
def sCnR : Sp := fun | [.r N l] => some ([L9 l, N ≤ 9], .pl (.tup [.i .i64 (cntV N l : Int), .i .i64 (cntE N l)])) | _ => none
def kCnR (nm : List (Option AV)) : Nat × (List MBlk → List SV → Option AR) := (25, genF EL nm [.r] sCnR)
end Go.Proofs.Ytiokmglajigngaa
