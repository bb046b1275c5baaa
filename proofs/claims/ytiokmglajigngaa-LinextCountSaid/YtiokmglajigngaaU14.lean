/-
  The linext layer: counts, ranks: what is computed.
-/
import Derived.Test.YtiokmglajigngaaU13
namespace Go.Proofs.Ytiokmglajigngaa
open Go Go.Proofs.Ytiokmglajigngaa.Sx
def befP (N : Int) (l : List Pq) : List Int := bif okP N l then befL N.toNat l else []
def cntV (N : Int) (l : List Pq) : Nat := bif okP N l && okC (befP N l) then cmp (befP N l) 0 else 0
def cntE (N : Int) (l : List Pq) : Int := bif okP N l then errC (befP N l) else errP N l
def dwnV (N : Int) (l : List Pq) : Nat := bif okP N l then (dsOut (befP N l)).length else 0
def dwnE (N : Int) (l : List Pq) : Int := bif okP N l then dsErr (befP N l) else errP N l
def sCnt : Sp := fun | [.r N l] => some ([L9 l], .pl (.tup [.i .i64 (cntV N l : Int), .i .i64 (cntE N l)])) | _ => none
def sDws : Sp := fun | [.r N l] => some ([L9 l], .pl (.tup [.i .i64 (dwnV N l : Int), .i .i64 (dwnE N l)])) | _ => none
/-- The rank of the first k elements. -/
def rkT (B : List Int) (o : List Int) : Nat → Nat
  | 0 => 0
  | k + 1 => rkT B o k + sumF B (maskM (o.take k)) (cmp B) (nthD 0 o k).toNat
def rkV (N : Int) (l : List Pq) (o : List Int) : Nat := bif okP N l && isX N l o && okC (befP N l) then rkT (befP N l) o o.length else 0
def rkE (N : Int) (l : List Pq) (o : List Int) : Int := bif okP N l then (bif isX N l o then errC (befP N l) else 5) else errP N l
def sRnk : Sp := fun | [.r N l, .is o] => some ([L9 l, L9 o], .pl (.tup [.i .i64 (rkV N l o : Int), .i .i64 (rkE N l o)])) | _ => none
/-- The next element of the extension with the rank r behind the set s. -/
def ntY (B : List Int) (s r : Nat) : Nat := ((List.range B.length).find? (fun y => Nat.blt r (sumF B s (cmp B) (y + 1)))).getD 0
def ntS (B : List Int) (r : Nat) : Nat → List Int × Nat
  | 0 => ([], r)
  | k + 1 => ((ntS B r k).1 ++ [(ntY B (maskM (ntS B r k).1) (ntS B r k).2 : Int)], (ntS B r k).2 - sumF B (maskM (ntS B r k).1) (cmp B) (ntY B (maskM (ntS B r k).1) (ntS B r k).2))
def ntO (B : List Int) (r : Int) : Bool := decide (r < 0) || decide (r ≥ (cmp B 0 : Int))
def ntL (N : Int) (l : List Pq) (r : Int) : List Int := bif okP N l && okC (befP N l) && !ntO (befP N l) r then (ntS (befP N l) r.toNat N.toNat).1 else []
def ntE (N : Int) (l : List Pq) (r : Int) : Int := bif okP N l then (bif okC (befP N l) then (bif ntO (befP N l) r then 2 else 0) else 4) else errP N l
def sNth : Sp := fun | [.r N l, .i r] => some ([L9 l], .sl (fun k => .tup [.sl 0 k, .i .i64 (ntE N l r)]) (.is (ntL N l r))) | _ => none
def kCnt (nm : List (Option AV)) : Nat × (List MBlk → List SV → Option AR) := (24, genF EL nm [.r] sCnt)
def kDws (nm : List (Option AV)) : Nat × (List MBlk → List SV → Option AR) := (22, genF EL nm [.r] sDws)
def kRnk (nm : List (Option AV)) : Nat × (List MBlk → List SV → Option AR) := (29, genF EL nm [.r, .is] sRnk)
def kNth (nm : List (Option AV)) : Nat × (List MBlk → List SV → Option AR) := (31, genF EL nm [.r, .i] sNth)
def lRk0 (B : List Int) (o : List Int) : LAnn := ⟨Nat, fun k => k ≤ o.length, fun k => [(36, .i .i64 (k : Int)), (9, .i .i64 (rkT B o k : Int)), (10, .i .u64 (maskM (o.take k) : Int))], fun _ => [], fun k => o.length - k, [], []⟩
def lRk1 (B : List Int) (o : List Int) : PLoop := ⟨Nat, fun k => ⟨Nat, fun x => (x : Int) ≤ nthD 0 o k ∧ k < o.length, fun x => [(41, .i .i64 (x : Int)), (9, .i .i64 ((rkT B o k + sumF B (maskM (o.take k)) (cmp B) x : Nat) : Int))], fun _ => [], fun x => (nthD 0 o k).toNat - x, [], []⟩⟩
def lNt0 (N : Int) (B : List Int) (r : Nat) (e : Nat) : LAnn := ⟨Nat, fun k => k ≤ N.toNat, fun k => [(9, .sl e (ntS B r k).1.length), (10, .i .u64 (maskM (ntS B r k).1 : Int)), (1, .i .i64 ((ntS B r k).2 : Int))], fun k => [ownI e (ntS B r k).1], fun k => N.toNat - k, [e], []⟩
def lNt1 (N : Int) (B : List Int) (r : Nat) (e : Nat) : PLoop := ⟨Nat, fun k => ⟨Nat, fun x => x ≤ N.toNat ∧ k < N.toNat ∧ sumF B (maskM (ntS B r k).1) (cmp B) x ≤ (ntS B r k).2, fun x => [(44, .i .i64 (x : Int)), (9, .sl e (ntS B r k).1.length), (10, .i .u64 (maskM (ntS B r k).1 : Int)), (1, .i .i64 (((ntS B r k).2 - sumF B (maskM (ntS B r k).1) (cmp B) x : Nat) : Int))], fun _ => [], fun x => N.toNat - x, [], []⟩⟩
end Go.Proofs.Ytiokmglajigngaa
