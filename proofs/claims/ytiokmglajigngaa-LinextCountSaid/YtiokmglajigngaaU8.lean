/-
  The linext layer: prefixes of extensions.
-/
import Derived.Test.YtiokmglajigngaaU7
namespace Go.Proofs.Ytiokmglajigngaa
open Go Go.Proofs.Ytiokmglajigngaa.Sx
def posI (n : Int) : List Int → Int → Int
  | [], _ => -1
  | x :: r, i => bif x == n then i else posI n r (i + 1)
def hasI (pre : List Int) (x : Int) : Bool := pre.any (fun y => y == x)
/-- x can follow the prefix. -/
def okN (l : List Pq) (pre : List Int) (x : Int) : Bool := !hasI pre x && l.all (fun p => !(p.2 == x && !hasI pre p.1))
def nxtK (l : List Pq) (pre : List Int) (k : Nat) : List Int := ((List.range k).filter (fun x : Nat => okN l pre x)).map (fun x : Nat => (x : Int))
def nxtL (N : Int) (l : List Pq) (pre : List Int) : List Int := nxtK l pre N.toNat
def hdN (N : Int) (l : List Pq) (pre : List Int) : Int := nthD 0 (nxtL N l pre) 0
/-- The smallest extension's prefix of k elements. -/
def rfL (N : Int) (l : List Pq) : Nat → List Int
  | 0 => []
  | k + 1 => rfL N l k ++ [hdN N l (rfL N l k)]
def fstL (N : Int) (l : List Pq) : List Int := bif okP N l then rfL N l N.toNat else []
def maskM (pre : List Int) : Nat := pre.foldl (fun m x => m ||| 1 <<< x.toNat) 0
def sPos : Sp := fun | [.is l, .i n] => some ([L9 l], .pl (.i .i64 (posI n l 0))) | _ => none
def sNxt : Sp := fun | [.r N l, .is pre] => some ([validF N l = true, L9 l, L9 pre], .sl (fun k => .sl 0 k) (.is (nxtL N l pre))) | _ => none
def sWro : Sp := fun | [.r N l] => some ([L9 l], .pl (.i .i64 (errP N l))) | _ => none
def sFst : Sp := fun | [.r N l] => some ([L9 l], .sl (fun k => .tup [.sl 0 k, .i .i64 (errP N l)]) (.is (fstL N l))) | _ => none
def sFew : Sp := fun | [.r N l, .i n] => some ([], .pl (.b (decide (N ≤ n) && decide ((l.length : Int) ≤ 60)))) | _ => none
def kPos (nm : List (Option AV)) : Nat × (List MBlk → List SV → Option AR) := (38, genF EL nm [.is, .i] sPos)
def kNxt (nm : List (Option AV)) : Nat × (List MBlk → List SV → Option AR) := (36, genF EL nm [.r, .is] sNxt)
def kWro (nm : List (Option AV)) : Nat × (List MBlk → List SV → Option AR) := (35, genF EL nm [.r] sWro)
def kFst (nm : List (Option AV)) : Nat × (List MBlk → List SV → Option AR) := (14, genF EL nm [.r] sFst)
def kFst' (nm : List (Option AV)) : Nat × (List MBlk → List SV → Option AR) := (15, genF EL nm [.r] sFst)
def kFew (nm : List (Option AV)) : Nat × (List MBlk → List SV → Option AR) := (12, genF EL nm [.r, .i] sFew)
def ownI (e : Nat) (l : List Int) : Nat × MBlk := (e, .oarr 3 l.length (isCols l))
def lPos (l : List Int) (n : Int) (t : Nat) : LAnn := lCnt l.length t (fun i => posI n (l.drop i) i = posI n l 0) (fun _ => []) []
def lNx0 (N : Int) (l : List Pq) (pre : List Int) (t v e : Nat) : LAnn := ⟨Nat, fun k => k ≤ N.toNat, fun k => [(t, .i .i64 (k : Int)), (v, .sl e (nxtK l pre k).length)], fun k => [ownI e (nxtK l pre k)], fun k => N.toNat - k, [e], []⟩
def lNx1 (l : List Pq) (pre : List Int) (t v : Nat) : PLoop := ⟨Nat, fun x => ⟨Nat, fun i => i ≤ l.length, fun i => [(t, .i .i64 (i : Int)), (v, .b (!hasI pre x && (l.take i).all (fun p => !(p.2 == (x : Int) && !hasI pre p.1))))], fun _ => [], fun i => l.length - i, [], []⟩⟩
def lFs0 (N : Int) (l : List Pq) (v s e : Nat) : LAnn := ⟨Nat, fun k => k ≤ N.toNat, fun k => [(v, .sl e (rfL N l k).length), (s, .i .u64 (maskM (rfL N l k) : Int))], fun k => [ownI e (rfL N l k)], fun k => N.toNat - k, [e], []⟩
def lFs1 (N : Int) (l : List Pq) (t v s e : Nat) : PLoop := ⟨Nat, fun k => ⟨Nat, fun x => x ≤ N.toNat ∧ k < N.toNat ∧ (List.range x).all (fun y => !okN l (rfL N l k) y) = true, fun x => [(t, .i .i64 (x : Int)), (v, .sl e (rfL N l k).length), (s, .i .u64 (maskM (rfL N l k) : Int))], fun _ => [], fun x => N.toNat - x, [], []⟩⟩
def lFr0 (N : Int) (l : List Pq) (v e : Nat) : LAnn := ⟨Nat, fun k => k ≤ N.toNat, fun k => [(v, .sl e (rfL N l k).length)], fun k => [ownI e (rfL N l k)], fun k => N.toNat - k, [e], []⟩
end Go.Proofs.Ytiokmglajigngaa
