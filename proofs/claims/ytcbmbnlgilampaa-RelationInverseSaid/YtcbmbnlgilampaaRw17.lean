/-
  A part of the proof (Rw17).
-/
import Derived.Test.YtcbmbnlgilampaaRw16
namespace Go.Proofs.Ytcbmbnlgilampaa
open Go Go.Proofs.Ytcbmbnlgilampaa.Sx
/-- The composition by way of the numbers below j. -/
def cmpK (f g : Pf) (j : Nat) : Pf := fun x y => (List.range j).any (fun k : Nat => f x k && g k y)
def cmA (f g : Pf) (n i : Nat) : Pf := fun x y => bif decide (x < (i : Int)) then cmpK f g n x y else false
def cmB (f g : Pf) (n i j : Nat) : Pf := fun x y => bif decide (x < (i : Int)) then cmpK f g n x y else bif decide (x = (i : Int)) then cmpK f g j x y else false
def cmC (f g : Pf) (n i j k : Nat) : Pf := fun x y => bif decide (x < (i : Int)) then cmpK f g n x y else bif decide (x = (i : Int)) then (bif decide (y < (k : Int)) then cmpK f g (j + 1) x y else cmpK f g j x y) else false
def lCa (n : Nat) (f g : Pf) : LAnn := lCnt n 10 (fun _ => True) (fun i => [tblK 7 n (cmA f g n i)]) []
def lCb (n : Nat) (f g : Pf) : PLoop := ⟨Nat, fun i => lCnt n 11 (fun _ => i < n) (fun j => [tblK 7 n (cmB f g n i j)]) []⟩
def lCc (n : Nat) (f g : Pf) : PLoop := ⟨Nat × Nat, fun p => lCnt n 12 (fun _ => p.1 < n ∧ p.2 < n) (fun k => [tblK 7 n (cmC f g n p.1 p.2 k)]) []⟩
/-- The composition of the pairs that are not left. -/
def cmL (f g left : Pf) (n : Nat) : Pf := fun x y => (List.range n).any (fun k : Nat => (f x k && !left x k) && g k y)
def lIt (n : Nat) (f : Pf) (e i : Nat) (mem : Pf → MBlk) : LAnn where
  X := Pf
  inv := fun left => ∀ x y, left x y = true → f x y = true
  slots := fun _ => []
  mem := fun left => [(e, mem left), (i, .iterp left none)]
  mu := fun left => (allL left n n).length
def stL (s : Pf) (T : List Pq) (p q : Int) (i : Nat) : Pf := fun x y => s x y || (x == p && (T.take i).any (fun t => t.1 == q && t.2 == y))
def lCq (T : List Pq) (t e : Nat) : PLoop := ⟨Pf × Int × Int, fun u => lCnt T.length t (fun _ => True) (fun i => [(e, .mapp (stL u.1 T u.2.1 u.2.2 i))]) []⟩
def sCmp : Sp := fun | [.r A a, .r B b] => some ([L9 a, L9 b], .sl (relE (bif bothF A a B b then A else 0) (bif bothF A a B b then 0 else 1)) (.ps (bif bothF A a B b then normL A (cmpK (setF a) (setF b) A.toNat) else []))) | _ => none
def kCmp (nm : List (Option AV)) : Nat × (List MBlk → List SV → Option AR) := (27, genF EL nm [.r, .r] sCmp)
def kCmp' (nm : List (Option AV)) : Nat × (List MBlk → List SV → Option AR) := (32, genF EL nm [.r, .r] sCmp)
def kUni (nm : List (Option AV)) : Nat × (List MBlk → List SV → Option AR) := (29, genF EL nm [.r, .r] sUni)
def kUni' (nm : List (Option AV)) : Nat × (List MBlk → List SV → Option AR) := (31, genF EL nm [.r, .r] sUni)
def kInv (nm : List (Option AV)) : Nat × (List MBlk → List SV → Option AR) := (30, genF EL nm [.r] sInv)
def kInv' (nm : List (Option AV)) : Nat × (List MBlk → List SV → Option AR) := (33, genF EL nm [.r] sInv)
end Go.Proofs.Ytcbmbnlgilampaa
