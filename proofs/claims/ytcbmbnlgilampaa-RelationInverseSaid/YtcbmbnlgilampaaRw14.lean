/-
  A part of the proof (Rw14).
-/
import Derived.Test.YtcbmbnlgilampaaRw13
namespace Go.Proofs.Ytcbmbnlgilampaa
open Go Go.Proofs.Ytcbmbnlgilampaa.Sx
def mixA (f : Pf) (m a : Nat) : Pf := fun x y => bif decide (x < (a : Int)) then wF f (m + 1) x y else wF f m x y
def mixB (f : Pf) (m a b : Nat) : Pf := fun x y => bif decide (x < (a : Int)) || (decide (x = (a : Int)) && decide (y < (b : Int))) then wF f (m + 1) x y else wF f m x y
def tblK (e n : Nat) (f : Pf) : Nat × MBlk := (e, .oarr 4 (n * n) (bsCols (tblL n f)))
def lWm (n : Nat) (f : Pf) (t e : Nat) : LAnn := lCnt n t (fun _ => True) (fun m => [tblK e n (wF f m)]) []
def lWa (n : Nat) (f : Pf) (t e : Nat) : PLoop := ⟨Nat, fun m => lCnt n t (fun _ => m < n) (fun a => [tblK e n (mixA f m a)]) []⟩
def lWb (n : Nat) (f : Pf) (t e : Nat) : PLoop := ⟨Nat × Nat, fun p => lCnt n t (fun _ => p.1 < n ∧ p.2 < n) (fun b => [tblK e n (mixB f p.1 p.2 b)]) []⟩
def acyF (n : Nat) (f : Pf) : Bool := (List.range n).all (fun a => !f a a)
def lAcy (n : Nat) (f : Pf) (t : Nat) : LAnn := lCnt n t (fun i => acyF i f = true) (fun _ => []) []
def sameF (A : Int) (a : List Pq) (B : Int) (b : List Pq) : Bool := decide (A = B) && decide (a = b)
def lSam (a b : List Pq) (t : Nat) : LAnn := lCnt a.length t (fun i => a.take i = b.take i) (fun _ => []) []
def lIsm (a b : List Int) (t : Nat) : LAnn := lCnt a.length t (fun i => a.take i = b.take i) (fun _ => []) []
def arI (l : List Int) : MBlk := .arr l.length (isCols l)
def sCld : Sp := fun | [.r N l] => some ([validF N l = true, L9 l], .sl (fun k => .sl 0 k) (.bs (tblL N.toNat (wF (setF l) N.toNat)))) | _ => none
def sClo : Sp := fun | [.r N l] => some ([L9 l], .sl (relT (bif validF N l then N else 0)) (.ps (bif validF N l then normL N (wF (setF l) N.toNat) else []))) | _ => none
def sAcy : Sp := fun | [.r N l] => some ([L9 l], .pl (.b (validF N l && acyF N.toNat (wF (setF l) N.toNat)))) | _ => none
def sSam : Sp := fun | [.r A a, .r B b] => some ([L9 a, L9 b], .pl (.b (sameF A a B b))) | _ => none
def sInt : Sp := fun | [.is a, .is b] => some ([L9 a, L9 b], .pl (.b (decide (a = b)))) | _ => none
def kCld (nm : List (Option AV)) : Nat × (List MBlk → List SV → Option AR) := (39, genF EL nm [.r] sCld)
def kClo (nm : List (Option AV)) : Nat × (List MBlk → List SV → Option AR) := (17, genF EL nm [.r] sClo)
def kClo' (nm : List (Option AV)) : Nat × (List MBlk → List SV → Option AR) := (18, genF EL nm [.r] sClo)
def kAcy (nm : List (Option AV)) : Nat × (List MBlk → List SV → Option AR) := (14, genF EL nm [.r] sAcy)
def kAcy' (nm : List (Option AV)) : Nat × (List MBlk → List SV → Option AR) := (15, genF EL nm [.r] sAcy)
def kSam (nm : List (Option AV)) : Nat × (List MBlk → List SV → Option AR) := (16, genF EL nm [.r, .r] sSam)
def kSam' (nm : List (Option AV)) : Nat × (List MBlk → List SV → Option AR) := (40, genF EL nm [.r, .r] sSam)
def kInt (nm : List (Option AV)) : Nat × (List MBlk → List SV → Option AR) := (13, genF EL nm [.is, .is] sInt)
end Go.Proofs.Ytcbmbnlgilampaa
