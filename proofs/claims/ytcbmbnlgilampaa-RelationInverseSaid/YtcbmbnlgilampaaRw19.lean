/-
  A part of the proof (Rw19).
-/
import Derived.Test.YtcbmbnlgilampaaRw18
namespace Go.Proofs.Ytcbmbnlgilampaa
open Go Go.Proofs.Ytcbmbnlgilampaa.Sx
def witF (A : Int) (a : List Pq) (B : Int) (b : List Pq) : Bool := bothF A a B b && decide (normL A (setF (a ++ b)) = normL A (setF a))
def sWit : Sp := fun | [.r A a, .r B b] => some ([L9 a, L9 b, L9 (a ++ b)], .pl (.b (witF A a B b))) | _ => none
/-- What the reduction keeps of a closure. -/
def redF (c : Pf) (n : Nat) : Pf := fun x y => c x y && !cmpK c c n x y
def clo (N : Int) (l : List Pq) : Pf := wF (setF l) N.toNat
def okR (N : Int) (l : List Pq) : Bool := validF N l && acyF N.toNat (clo N l)
def redL (N : Int) (l : List Pq) : List Pq := normL N (redF (clo N l) N.toNat)
def errR (N : Int) (l : List Pq) : Int := bif validF N l then (bif acyF N.toNat (clo N l) then 0 else 20) else 1
def sRed : Sp := fun | [.r N l] => some ([L9 l], .sl (relE (bif okR N l then N else 0) (errR N l)) (.ps (bif okR N l then redL N l else []))) | _ => none
/-- Impl: over the map. -/
def rdL (c left : Pf) (n : Nat) : Pf := fun x y => (c x y && !left x y) && !cmpK c c n x y
def lRq (c : Pf) (n t v : Nat) : PLoop := ⟨Int × Int, fun u => {
  X := Nat
  inv := fun i => i ≤ n
  slots := fun i => [(t, .i .i64 (i : Int)), (v, .b (!cmpK c c i u.1 u.2))]
  mem := fun _ => []
  mu := fun i => n - i }⟩
/-- Ref: over the table. -/
def rdA (c : Pf) (n a : Nat) : Pf := fun x y => bif decide (x < (a : Int)) then redF c n x y else false
def rdB (c : Pf) (n a b : Nat) : Pf := fun x y => bif decide (x < (a : Int)) then redF c n x y else bif decide (x = (a : Int)) then (bif decide (y < (b : Int)) then redF c n x y else false) else false
def rdC (c : Pf) (n a b k : Nat) : Pf := fun x y => bif decide (x < (a : Int)) then redF c n x y else bif decide (x = (a : Int)) then (bif decide (y < (b : Int)) then redF c n x y else bif decide (y = (b : Int)) then redF c k x y && c x y else false) else false
def lRa (n : Nat) (c : Pf) : LAnn := lCnt n 7 (fun _ => True) (fun a => [tblK 4 n (rdA c n a)]) []
def lRb (n : Nat) (c : Pf) : PLoop := ⟨Nat, fun a => lCnt n 8 (fun _ => a < n) (fun b => [tblK 4 n (rdB c n a b)]) []⟩
def lRc (n : Nat) (c : Pf) : PLoop := ⟨Nat × Nat, fun p => lCnt n 9 (fun _ => p.1 < n ∧ p.2 < n) (fun k => [tblK 4 n (rdC c n p.1 p.2 k)]) []⟩
def kRed (nm : List (Option AV)) : Nat × (List MBlk → List SV → Option AR) := (19, genF EL nm [.r] sRed)
def kRed' (nm : List (Option AV)) : Nat × (List MBlk → List SV → Option AR) := (20, genF EL nm [.r] sRed)
def kWit (nm : List (Option AV)) : Nat × (List MBlk → List SV → Option AR) := (28, genF EL nm [.r, .r] sWit)
end Go.Proofs.Ytcbmbnlgilampaa
