/-
  The linext layer: posets.
-/
import Derived.Test.YtiokmglajigngaaU5
namespace Go.Proofs.Ytiokmglajigngaa
open Go Go.Proofs.Ytiokmglajigngaa.Sx
/-- The mask of the numbers before x. -/
def befM (l : List Pq) (x : Int) : Nat := l.foldl (fun m p => bif p.2 == x then m ||| 1 <<< p.1.toNat else m) 0
def befL (n : Nat) (l : List Pq) : List Int := mkN (fun x => (befM l x : Int)) n
def acy (N : Int) (l : List Pq) : Bool := acyF N.toNat (wF (setF l) N.toNat)
def okP (N : Int) (l : List Pq) : Bool := validF N l && acy N l
/-- The error of a relation. -/
def errP (N : Int) (l : List Pq) : Int := bif validF N l then (bif acy N l then 0 else 20) else 1
def posT (N : Int) (e : Int) : Nat → SV := fun k => .tup [.agg [.i .i64 N, .sl 0 k], .i .i64 e]
def sChk : Sp := fun | [.r N l] => some ([L9 l], .sl (posT (bif okP N l then N else 0) (errP N l)) (.us (bif okP N l then befL N.toNat l else []))) | _ => none
def kChk (nm : List (Option AV)) : Nat × (List MBlk → List SV → Option AR) := (33, genF EL nm [.r] sChk)
/-- Whether x can come next behind the set. -/
def frR (B : List Int) (s x : Int) : Bool := bits .and .u64 s (IntKind.u64.wrap (1 * 2 ^ x.toNat)) == 0 && bits .andNot .u64 (nthD 0 B x.toNat) s == 0
def sFre : Sp := fun | [.po N B, .u s, .i x] => some ([0 ≤ x ∧ x < 64, x < (B.length : Int)], .pl (.b (frR B s x))) | _ => none
def kFre (nm : List (Option AV)) : Nat × (List MBlk → List SV → Option AR) := (34, genF EL nm [.po, .u, .i] sFre)
def lChk (N : Int) (l : List Pq) (t e : Nat) : LAnn := lCnt l.length t (fun _ => True) (fun i => [(e, .oarr 54 N.toNat (usCols (befL N.toNat (l.take i))))]) []
def poV (N : Int) (x : Nat) (B : List Int) : SV := .agg [.i .i64 N, .sl x B.length]
def arU (B : List Int) : MBlk := .arr B.length (usCols B)
def bifU (c : Bool) (l : List Int) : List Int := bif c then l else []
end Go.Proofs.Ytiokmglajigngaa
