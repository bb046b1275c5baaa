/-
  The relation layer: what the other functions compute.
-/
import Derived.Test.YtcbmbnlgilampaaRw6
namespace Go.Proofs.Ytcbmbnlgilampaa
open Go Go.Proofs.Ytcbmbnlgilampaa.Sx

/-- The second places of the pairs with the first place a. -/
def secs (P : List Pq) (a : Nat) : List Int := (P.filter (fun p => p.1 == (a : Int))).map (·.2)
def rowsOf (n : Nat) (P : List Pq) : List (List Int) := mkN (secs P) n
def sucL (n : Nat) (f : Pf) : List (List Int) := mkN (fun a => (rowL f a n).map (·.2)) n
def orw (n : Nat) (R : List (List Int)) : MBlk := .orows 26 3 n none none (fun j => (nthD [] R j).length) [fun j i => nthD 0 (nthD [] R j) i]
def lSuc (N : Int) (P : List Pq) (t e : Nat) : LAnn := lCnt P.length t (fun _ => True) (fun i => [(e, orw N.toNat (rowsOf N.toNat (P.take i)))]) []
def tabK (calls : Calling) (loops : List (Nat × PLoop)) (id : Nat) (g : List MBlk → List Gh) : Tab := ⟨tyTab, [], calls, loops, [], [], [(id, fun _ m => g m)]⟩
theorem tabKOk {calls : Calling} {loops : List (Nat × PLoop)} {id : Nat} {g : List MBlk → List Gh} (h : ∀ p ∈ calls, CallOk Try.prog [] p.1 p.2) : TabOk Try.prog (tabK calls loops id g) := ⟨mixed, tys, ints, fun _ _ hf => h _ (assoc_mem hf), fun _ _ hf => by cases hf⟩
def tkRow (box out : Nat) : List MBlk → List Gh := fun m => match nth m box with
  | some (.cells (.i _ a :: _)) => [.take out a.toNat]
  | _ => []
def sSuc : Sp := fun | [.r N l] => some ([validF N l = true, L9 l], .sl (fun k => .sl 0 k) (.rs (sucL N.toNat (setF l)))) | _ => none
def kSuc (nm : List (Option AV)) : Nat × (List MBlk → List SV → Option AR) := (34, genF EL nm [.r] sSuc)
end Go.Proofs.Ytcbmbnlgilampaa
