/-
  A part of the proof (Rw21).
-/
import Derived.Test.YtcbmbnlgilampaaRw20
namespace Go.Proofs.Ytcbmbnlgilampaa
open Go Go.Proofs.Ytcbmbnlgilampaa.Sx
/-- b comes next to last at distance i + 1. -/
def tst (o : Nat → Int) (to : Int) (i : Nat) (b : Int) : Bool := bif Nat.beq i 0 then b == to else o b.toNat == (i : Int)
def hit (f : Pf) (o : Nat → Int) (to : Int) (i a k : Nat) : Bool := (List.range k).any (fun b : Nat => f a b && tst o to i b)
/-- The distances found in i rounds (0: none). -/
def disG (f : Pf) (n : Nat) (to : Int) : Nat → Nat → Int
  | 0 => fun _ => 0
  | i + 1 => fun a => bif disG f n to i a == 0 && hit f (disG f n to i) to i a n then ((i + 1 : Nat) : Int) else disG f n to i a
def disM (f : Pf) (n : Nat) (to : Int) (i a : Nat) : Nat → Int := fun x => bif Nat.blt x a then disG f n to (i + 1) x else disG f n to i x
def ng (v : Int) : Int := bif v == 0 then -1 else v
def hitL (o : Nat → Int) (to : Int) (i k : Nat) (row : List Int) : Bool := (row.take k).any (tst o to i)
def disR (n : Nat) (o : Nat → Int) : List Int := mkN o n
def disP (n : Nat) (o : Nat → Int) : List Int := mkN (fun x => ng (o x)) n
def intsB (e n : Nat) (l : List Int) : Nat × MBlk := (e, .oarr 3 n (isCols l))
def lUp (n t : Nat) (mem : Nat → List (Nat × MBlk)) : LAnn := ⟨Nat, fun i => i ≤ n, fun i => [(t, .i .i64 ((i + 1 : Nat) : Int))], mem, fun i => n - i, [], []⟩
def lDr0 (f : Pf) (n : Nat) (to : Int) (t e : Nat) : LAnn := lUp n t (fun i => [intsB e n (disR n (disG f n to i))])
def lDr1 (f : Pf) (n : Nat) (to : Int) (t e : Nat) : PLoop := ⟨Nat, fun i => lCnt n t (fun _ => i < n) (fun a => [intsB e n (disR n (disM f n to i a))]) []⟩
def lDr2 (f : Pf) (n : Nat) (to : Int) (t v : Nat) : PLoop := ⟨Nat × Nat, fun p => ⟨Nat, fun k => k ≤ n ∧ p.1 < n ∧ p.2 < n, fun k => [(t, .i .i64 (k : Int)), (v, .b (hit f (disG f n to p.1) to p.1 p.2 k))], fun _ => [], fun k => n - k, [], []⟩⟩
def neg1 (n i : Nat) : List Int := mkN (fun x => bif Nat.blt x i then -1 else 0) n
def lDi (n t e : Nat) : LAnn := lCnt n t (fun _ => True) (fun i => [intsB e n (neg1 n i)]) []
def lDi0 (f : Pf) (n : Nat) (to : Int) (t e : Nat) : LAnn := lUp n t (fun i => [intsB e n (disP n (disG f n to i))])
def lDi1 (f : Pf) (n : Nat) (to : Int) (t e : Nat) : PLoop := ⟨Nat, fun i => lCnt n t (fun _ => i < n) (fun a => [intsB e n (disP n (disM f n to i a))]) []⟩
def disX (f : Pf) (n : Nat) (to : Int) (i a k : Nat) (row : List Int) : List Int := mkN (fun x => bif Nat.beq x a then (bif hitL (disG f n to i) to i k row then ((i + 1 : Nat) : Int) else -1) else ng (disM f n to i a x)) n
def lDi2 (f : Pf) (n : Nat) (to : Int) (R : List (List Int)) (t e : Nat) : PLoop := ⟨Nat × Nat, fun p => lCnt (nthD [] R p.2).length t (fun _ => p.1 < n ∧ p.2 < n ∧ disG f n to p.1 p.2 = 0) (fun k => [intsB e n (disX f n to p.1 p.2 k (nthD [] R p.2))]) []⟩
def sDis : Sp := fun | [.r N l, .rs R, .i to] => some ([validF N l = true, L9 l, R = sucL N.toNat (setF l)], .sl (fun k => .sl 0 k) (.is (disP N.toNat (disG (setF l) N.toNat to N.toNat)))) | _ => none
def sDis' : Sp := fun | [.i n, .bs h, .i to] => some ([0 ≤ n ∧ n ≤ 64, h.length = n.toNat * n.toNat], .sl (fun k => .sl 0 k) (.is (disR n.toNat (disG (tblF n.toNat h) n.toNat to n.toNat)))) | _ => none
def kDis (nm : List (Option AV)) : Nat × (List MBlk → List SV → Option AR) := (35, genF EL nm [.r, .rs, .i] sDis)
def kDis' (nm : List (Option AV)) : Nat × (List MBlk → List SV → Option AR) := (37, genF EL nm [.i, .bs, .i] sDis')
end Go.Proofs.Ytcbmbnlgilampaa
