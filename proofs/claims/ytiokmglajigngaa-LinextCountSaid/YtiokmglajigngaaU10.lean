/-
  The linext layer: downsets, completions, whether an order is an extension: what is computed.
-/
import Derived.Test.YtiokmglajigngaaU9
import Derived.Test.YtiokmglajigngaaUPop
namespace Go.Proofs.Ytiokmglajigngaa
open Go Go.Proofs.Ytiokmglajigngaa.Sx
/-- Whether an order is a linear extension. -/
def isX (N : Int) (l : List Pq) (o : List Int) : Bool := validF N l && o.length == N.toNat && (List.range N.toNat).all (fun n : Nat => hasI o n) && l.all (fun p => decide (posI p.1 o 0 < posI p.2 o 0))
def atF (o : List Int) : List Col := [.int .i64 (fun j => posI j o 0)]
def sIs : Sp := fun | [.r N l, .is o] => some ([L9 l, L9 o], .pl (.b (isX N l o))) | _ => none
def kIs (nm : List (Option AV)) : Nat × (List MBlk → List SV → Option AR) := (16, genF EL nm [.r, .is] sIs)
def kIs' (nm : List (Option AV)) : Nat × (List MBlk → List SV → Option AR) := (17, genF EL nm [.r, .is] sIs)
def lIs0 (N : Int) (t e : Nat) : LAnn := lCnt N.toNat t (fun _ => True) (fun k => [(e, .oarr 3 N.toNat [.int .i64 (fun j => bif Nat.blt j k then -1 else 0)])]) []
def lIs1 (N : Int) (o : List Int) (t e : Nat) : LAnn := lCnt o.length t (fun k => (∀ x ∈ o.take k, 0 ≤ x ∧ x < N) ∧ (o.take k).Nodup) (fun k => [(e, .oarr 3 N.toNat (atF (o.take k)))]) []
def lIs2 (l : List Pq) (o : List Int) (t : Nat) : LAnn := lCnt l.length t (fun k => (l.take k).all (fun p => decide (posI p.1 o 0 < posI p.2 o 0)) = true) (fun _ => []) []
def lIs3 (N : Int) (o : List Int) (t : Nat) : LAnn := lCnt N.toNat t (fun k => (List.range k).all (fun n : Nat => hasI o n) = true) (fun _ => []) []

/-! ### Downsets -/
def toI (L : List Nat) : List Int := L.map (fun m : Nat => (m : Int))
def dsX (B : List Int) (s : Nat) (L : List Nat) : Nat → List Nat
  | 0 => L
  | x + 1 => bif frR B s x && !((dsX B s L x).contains (s ||| 2 ^ x)) then dsX B s L x ++ [s ||| 2 ^ x] else dsX B s L x
def dsI (B : List Int) (n : Nat) : Nat → List Nat
  | 0 => [0]
  | i + 1 => bif Nat.blt i (dsI B n i).length then dsX B (nthD 0 (dsI B n i) i) (dsI B n i) n else dsI B n i
def dsE (B : List Int) : List Nat := dsI B B.length 65537
def okD (B : List Int) : Bool := Nat.ble (dsE B).length 65536
def dsOut (B : List Int) : List Int := bif okD B then toI (dsE B) else []
def dsErr (B : List Int) : Int := bif okD B then 0 else 4
def seenF (L : List Nat) (j : Int) : Option Int := bif L.any (fun m => (m : Int) == j) then some 1 else none
def sDow : Sp := fun | [.po N B] => some ([N = (B.length : Int), B.length ≤ 64], .sl (fun k => .tup [.sl 0 k, .i .i64 (dsErr B)]) (.us (dsOut B))) | _ => none
def kDow (nm : List (Option AV)) : Nat × (List MBlk → List SV → Option AR) := (42, genF EL nm [.po] sDow)
def ownU (e : Nat) (L : List Nat) : Nat × MBlk := (e, .oarr 54 L.length (usCols (toI L)))
def dsJ (B : List Int) (i x : Nat) : List Nat := dsX B (nthD 0 (dsI B B.length i) i) (dsI B B.length i) x
def lDo0 (B : List Int) (e mp : Nat) : LAnn := ⟨Nat, fun i => i ≤ (dsI B B.length i).length ∧ (dsI B B.length i).length ≤ 65536, fun i => [(6, .i .i64 (i : Int)), (5, .sl e (dsI B B.length i).length)], fun i => [ownU e (dsI B B.length i), (mp, .mapi .u64 none (seenF (dsI B B.length i)))], fun i => 65537 - i, [e], []⟩
def lDo1 (B : List Int) (e mp : Nat) : PLoop := ⟨Nat, fun i => ⟨Nat, fun x => x ≤ B.length ∧ i < (dsI B B.length i).length ∧ (dsJ B i x).length ≤ 65536, fun x => [(20, .i .i64 (x : Int)), (5, .sl e (dsJ B i x).length)], fun x => [ownU e (dsJ B i x), (mp, .mapi .u64 none (seenF (dsJ B i x)))], fun x => B.length - x, [e], []⟩⟩
def sPop : Sp := fun | [.u s] => some ([0 ≤ s ∧ s < 2 ^ 64], .pl (.i .i64 (siz 64 s.toNat : Int))) | _ => none
def kPop (nm : List (Option AV)) : Nat × (List MBlk → List SV → Option AR) := (50, genF EL nm [.u] sPop)

/-! ### Completions -/
def maxI : Nat := 9223372036854775807
/-- The sum over those that can come next. -/
def sumF (B : List Int) (s : Nat) (c : Nat → Nat) : Nat → Nat
  | 0 => 0
  | x + 1 => sumF B s c x + bif frR B s x then c (s ||| 2 ^ x) else 0
def cmpF (B : List Int) : Nat → Nat → Nat
  | 0, _ => 1
  | k + 1, s => sumF B s (cmpF B k) B.length
/-- The number of completions. -/
def cmp (B : List Int) (s : Nat) : Nat := cmpF B (B.length - siz 64 s) s
def okC (B : List Int) : Bool := okD B && Nat.ble (cmp B 0) maxI
def errC (B : List Int) : Int := bif okC B then 0 else 4
def cmM (B : List Int) (S : List Nat) (j : Int) : Option Int := bif S.any (fun m => (m : Int) == j) then some (cmp B j.toNat : Int) else none
def sCmp : Sp := fun | [.po N B] => some ([N = (B.length : Int), B.length ≤ 64, okC B = true], .mi .u64 (some .i64) (cmM B (dsE B)) (.i .i64 0)) | _ => none
def sCmE : Sp := fun | [.po N B] => some ([N = (B.length : Int), B.length ≤ 64, okC B = false], .pl (.tup [.nilmap, .i .i64 4])) | _ => none
def kCmp (nm : List (Option AV)) : Nat × (List MBlk → List SV → Option AR) := (44, genF EL nm [.po] sCmp)
def kCmE (nm : List (Option AV)) : Nat × (List MBlk → List SV → Option AR) := (44, genF EL nm [.po] sCmE)
def dsK (B : List Int) (k : Nat) : Nat := nthD 0 (dsE B) ((dsE B).length - 1 - k)
def lCo0 (B : List Int) (mp : Nat) : LAnn := ⟨Nat, fun k => k ≤ (dsE B).length ∧ ∀ s ∈ (dsE B).drop ((dsE B).length - k), cmp B s ≤ maxI, fun k => [(7, .i .i64 ((dsE B).length - 1 - k : Int))], fun k => [(mp, .mapi .u64 (some .i64) (cmM B ((dsE B).drop ((dsE B).length - k))))], fun k => (dsE B).length - k, [], []⟩
def lCo1 (B : List Int) : PLoop := ⟨Nat, fun k => ⟨Nat, fun x => x ≤ B.length ∧ k < (dsE B).length ∧ siz 64 (dsK B k) ≠ B.length ∧ sumF B (dsK B k) (cmp B) x ≤ maxI, fun x => [(41, .i .i64 (x : Int)), (9, .i .i64 (sumF B (dsK B k) (cmp B) x : Int))], fun _ => [], fun x => B.length - x, [], []⟩⟩
end Go.Proofs.Ytiokmglajigngaa
