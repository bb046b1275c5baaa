/-
  The relation layer: what the functions compute.
-/
import Derived.Test.YtcbmbnlgilampaaRwBase
namespace Go.Proofs.Ytcbmbnlgilampaa
open Go Go.Proofs.Ytcbmbnlgilampaa.Sx

abbrev Pf := Int → Int → Bool
def inR (N : Int) (p : Pq) : Bool := !(decide (p.1 < 0) || decide (p.1 ≥ N) || decide (p.2 < 0) || decide (p.2 ≥ N))
def inB (N : Int) : Bool := !(decide (N < 0) || decide (N > 64))
def validF (N : Int) (l : List Pq) : Bool := inB N && l.all (inR N)
/-- Room for the numbers. -/
def L9 {α : Type} (l : List α) : Prop := l.length ≤ 1099511627776
def setF (l : List Pq) : Pf := fun a b => l.any (fun p => p.1 == a && p.2 == b)
def rowL (f : Pf) (a k : Nat) : List Pq := ((List.range k).filter (fun b : Nat => f a b)).map (fun (b : Nat) => ((a : Int), (b : Int)))
def allL (f : Pf) (n k : Nat) : List Pq := (List.range k).flatMap (fun a => rowL f a n)
def normL (N : Int) (f : Pf) : List Pq := allL f N.toNat N.toNat
/-- The table of a set of pairs. -/
def tblL (n : Nat) (f : Pf) : List Bool := mkN (fun i => f ((i / n : Nat) : Int) ((i % n : Nat) : Int)) (n * n)
/-- The set of a table. -/
def tblF (n : Nat) (h : List Bool) : Pf := fun a b => nthD false h (a * n + b).toNat
def idxF (p : Pq) : List Pq → Int → Int
  | [], _ => -1
  | q :: r, i => bif p.1 == q.1 && p.2 == q.2 then i else idxF p r (i + 1)
def swapL (l : List Pq) : List Pq := l.map (fun p => (p.2, p.1))
def bothF (A : Int) (a : List Pq) (B : Int) (b : List Pq) : Bool := validF A a && validF B b && (A == B)

/-! ### Contracts -/
abbrev Sp := List AV → Option (List Prop × RV)
def relT (N : Int) : Nat → SV := fun k => .agg [.i .i64 N, .sl 0 k]
def relE (N : Int) (e : Int) : Nat → SV := fun k => .tup [.agg [.i .i64 N, .sl 0 k], .i .i64 e]
def sVal : Sp := fun | [.r N l] => some ([L9 l], .pl (.b (validF N l))) | _ => none
def sSet : Sp := fun | [.r _ l] => some ([L9 l], .mp (setF l)) | _ => none
def sNor : Sp := fun | [.i n, .mp f] => some ([0 ≤ n ∧ n ≤ 64], .sl (relT n) (.ps (normL n f))) | _ => none
def sLst : Sp := fun | [.i n, .bs h] => some ([0 ≤ n ∧ n ≤ 64, h.length = n.toNat * n.toNat], .sl (relT n) (.ps (normL n (tblF n.toNat h)))) | _ => none
def sTbl : Sp := fun | [.r N l] => some ([validF N l = true, L9 l], .sl (fun k => .sl 0 k) (.bs (tblL N.toNat (setF l)))) | _ => none
def sIdx : Sp := fun | [.ps l, .pr p] => some ([L9 l], .pl (.i .i64 (idxF p l 0))) | _ => none
def sCon : Sp := fun | [.ps l, .pr p] => some ([L9 l], .pl (.b (setF l p.1 p.2))) | _ => none
def sHas : Sp := fun | [.r N l, .i a, .i b] => some ([L9 l], .pl (.b (validF N l && setF l a b))) | _ => none
def sNml : Sp := fun | [.r N l] => some ([L9 l], .sl (relT (bif validF N l then N else 0)) (.ps (bif validF N l then normL N (setF l) else []))) | _ => none
def sBth : Sp := fun | [.r A a, .r B b] => some ([L9 a, L9 b], .pl (.b (bothF A a B b))) | _ => none
def sUni : Sp := fun | [.r A a, .r B b] => some ([L9 a, L9 b, L9 (a ++ b)], .sl (relE (bif bothF A a B b then A else 0) (bif bothF A a B b then 0 else 1)) (.ps (bif bothF A a B b then normL A (setF (a ++ b)) else []))) | _ => none
def sInv : Sp := fun | [.r N l] => some ([L9 l], .sl (relT (bif validF N l then N else 0)) (.ps (bif validF N l then normL N (setF (swapL l)) else []))) | _ => none

def kVal (nm : List (Option AV)) : Nat × (List MBlk → List SV → Option AR) := (21, genF EL nm [.r] sVal)
def kVal' (nm : List (Option AV)) : Nat × (List MBlk → List SV → Option AR) := (22, genF EL nm [.r] sVal)
def kSet (nm : List (Option AV)) : Nat × (List MBlk → List SV → Option AR) := (44, genF EL nm [.r] sSet)
def kNor (nm : List (Option AV)) : Nat × (List MBlk → List SV → Option AR) := (41, genF EL nm [.i, .mp] sNor)
def kLst (nm : List (Option AV)) : Nat × (List MBlk → List SV → Option AR) := (42, genF EL nm [.i, .bs] sLst)
def kTbl (nm : List (Option AV)) : Nat × (List MBlk → List SV → Option AR) := (36, genF EL nm [.r] sTbl)
def kIdx (nm : List (Option AV)) : Nat × (List MBlk → List SV → Option AR) := (47, genF EL nm [.ps, .pr] sIdx)
def kCon (nm : List (Option AV)) : Nat × (List MBlk → List SV → Option AR) := (43, genF EL nm [.ps, .pr] sCon)
def kNml (nm : List (Option AV)) : Nat × (List MBlk → List SV → Option AR) := (25, genF EL nm [.r] sNml)
def kNml' (nm : List (Option AV)) : Nat × (List MBlk → List SV → Option AR) := (26, genF EL nm [.r] sNml)
def kBth (nm : List (Option AV)) : Nat × (List MBlk → List SV → Option AR) := (45, genF EL nm [.r, .r] sBth)

/-! ### Loops -/
/-- A loop that counts in slot t up to n; P: what is known; mem. -/
def lCnt (n t : Nat) (P : Nat → Prop) (mem : Nat → List (Nat × MBlk)) (kill : List Nat) : LAnn where
  X := Nat
  inv := fun i => i ≤ n ∧ P i
  slots := fun i => [(t, .i .i64 (i : Int))]
  mem := mem
  mu := fun i => n - i
  kill := kill
def lVal (N : Int) (l : List Pq) (t : Nat) : LAnn := lCnt l.length t (fun i => (l.take i).all (inR N) = true) (fun _ => []) []
def lSet (l : List Pq) (t e : Nat) : LAnn := lCnt l.length t (fun _ => True) (fun i => [(e, .mapp (setF (l.take i)))]) []
def lUni (a b : List Pq) (t e : Nat) : LAnn := lCnt b.length t (fun _ => True) (fun i => [(e, .mapp (setF (a ++ b.take i)))]) []
def lInv (l : List Pq) (t e : Nat) : LAnn := lCnt l.length t (fun _ => True) (fun i => [(e, .mapp (setF (swapL (l.take i))))]) []
def ownP (e : Nat) (l : List Pq) : Nat × MBlk := (e, .oarr 38 l.length (psCols l))
def lOut (n : Int) (f : Pf) (t : Nat) : LAnn := lCnt n.toNat t (fun _ => True) (fun a => [(2, .cells [.i .i64 n, .sl 3 (allL f n.toNat a).length]), ownP 3 (allL f n.toNat a)]) [3]
def lInn (n : Int) (f : Pf) (t : Nat) : PLoop := ⟨Nat, fun a => lCnt n.toNat t (fun _ => a < n.toNat) (fun b => [(2, .cells [.i .i64 n, .sl 3 (allL f n.toNat a ++ rowL f a b).length]), ownP 3 (allL f n.toNat a ++ rowL f a b)]) [3]⟩
def lTbl (N : Int) (l : List Pq) (t e : Nat) : LAnn := lCnt l.length t (fun _ => True) (fun i => [(e, .oarr 4 (N.toNat * N.toNat) (bsCols (tblL N.toNat (setF (l.take i)))))]) []
def lIdx (l : List Pq) (p : Pq) (t : Nat) : LAnn := lCnt l.length t (fun i => idxF p (l.drop i) i = idxF p l 0) (fun _ => []) []
def lHas (l : List Pq) (a b : Int) (t : Nat) : LAnn := lCnt l.length t (fun i => setF (l.take i) a b = false) (fun _ => []) []
def lSwp (N : Int) (l : List Pq) (t : Nat) : LAnn := lCnt l.length t (fun _ => True) (fun i => [(3, .cells [.i .i64 N, .sl 4 (swapL (l.take i)).length]), ownP 4 (swapL (l.take i))]) [4]
/-- With memory said anew ahead of region id. -/
def tabG (calls : Calling) (loops : List (Nat × PLoop)) (id : Nat) (g : List Gh) : Tab := ⟨tyTab, [], calls, loops, [], [], [(id, fun _ _ => g)]⟩
theorem tabGOk {calls : Calling} {loops : List (Nat × PLoop)} {id : Nat} {g : List Gh} (h : ∀ p ∈ calls, CallOk Try.prog [] p.1 p.2) : TabOk Try.prog (tabG calls loops id g) := ⟨mixed, tys, ints, fun _ _ hf => h _ (assoc_mem hf), fun _ _ hf => by cases hf⟩
def arP (l : List Pq) : MBlk := .arr l.length (psCols l)
def arB (l : List Bool) : MBlk := .arr l.length (bsCols l)
def rlV (N : Int) (x : Nat) (l : List Pq) : SV := .agg [.i .i64 N, .sl x l.length]
def bifL (c : Bool) (l : List Pq) : List Pq := bif c then l else []
end Go.Proofs.Ytcbmbnlgilampaa
