/-
  The linext layer: all extensions: what is computed.
-/
import Derived.Test.YtiokmglajigngaaU16
namespace Go.Proofs.Ytiokmglajigngaa
open Go Go.Proofs.Ytiokmglajigngaa.Sx
/-- The extensions that begin with a prefix, where k elements lack. -/
def extN (N : Int) (l : List Pq) : Nat → List Int → List (List Int)
  | 0, P => [P]
  | k + 1, P => (nxtL N l P).flatMap (fun x => extN N l k (P ++ [x]))
def extP (N : Int) (l : List Pq) (P : List Int) : List (List Int) := extN N l (N.toNat - P.length) P
/-- What is behind a visit, and whether it may go on. -/
def vsL (N : Int) (l : List Pq) (lim : Int) (P : List Int) (L : List (List Int)) : List (List Int) := (L ++ extP N l P).take (lim.toNat + 1)
def vsB (N : Int) (l : List Pq) (lim : Int) (P : List Int) (L : List (List Int)) : Bool := Nat.ble (L ++ extP N l P).length lim.toNat
def rowsG (g2 : Nat → Nat → Int) (len : Nat → Nat) (k : Nat) : List (List Int) := mkN (fun j => mkN (g2 j) (len j)) k
def visFA : SV := .fn 39 [.ptr 0 0, .ptr 1 0, .ptr 2 0, .ptr 3 0, .ptr 4 0]
def visMA (N lim : Int) (B : List Int) (g : Nat → Int) (n : Nat) (g2 : Nat → Nat → Int) (len : Nat → Nat) (k : Nat) : List MBlk :=
  [.cells [.sl 5 n], .cells [.i .i64 N, .sl 6 B.length], .cells [.sl 7 k], .cells [.i .i64 lim], .cells [visFA], .oarr 3 n [.int .i64 g], .oarr 54 B.length (usCols B), .oarr 25 k [.rows len [g2]]]
def visVA (s : Int) : List SV := [.i .u64 s, .ptr 0 0, .ptr 1 0, .ptr 2 0, .ptr 3 0, .ptr 4 0]
def visUpA (N lim : Int) (B : List Int) (P : List Int) (L : List (List Int)) : List (Nat × MBlk) :=
  [(0, .cells [.sl 5 P.length]), (1, .cells [.i .i64 N, .sl 6 B.length]), (2, .cells [.sl 7 L.length]), (3, .cells [.i .i64 lim]), (4, .cells [visFA]), (5, .oarr 3 P.length (isCols P)), (6, .oarr 54 B.length (usCols B)), (7, .oarr 25 L.length (rsCols L))]
def preA (N : Int) (l : List Pq) (lim : Int) (F : Nat) (P : List Int) (L : List (List Int)) (s : Int) : List Prop :=
  [s = (maskM P : Int), ∀ y ∈ P, 0 ≤ y ∧ y < N, P.length ≤ N.toNat, 0 < N.toNat, N.toNat < P.length + F, (L.length : Int) ≤ lim]
def kVisA (N : Int) (l : List Pq) (lim : Int) (F : Nat) : List MBlk → List SV → Option BRes
  | m, [.i .u64 s, .ptr e1 0, .ptr e2 0, .ptr e3 0, .ptr e4 0, .ptr e5 0] => match nth m e1, nth m e2, nth m e3, nth m e4, nth m e5 with
    | some (.cells [.sl r n]), some (.cells [.i .i64 N', .sl q nb]), some (.cells [.sl w k]), some (.cells [.i .i64 lim']), some (.cells [.fn 39 [.ptr p1 0, .ptr p2 0, .ptr p3 0, .ptr p4 0, .ptr p5 0]]) => match nth m r, nth m q, nth m w with
      | some (.oarr 3 n' [.int .i64 g]), some (.oarr 54 nb' [.int .u64 h]), some (.oarr 25 k' [.rows len [g2]]) =>
        bif Nat.beq p1 e1 && Nat.beq p2 e2 && Nat.beq p3 e3 && Nat.beq p4 e4 && Nat.beq p5 e5 && nodupN [e1, e2, e3, e4, e5, r, q, w] then
          some (tB [e1, e2, e3, e4, e5, r, q, w] [5, 7] (visUpA N lim (befL N.toNat l) (mkN g n') (vsL N l lim (mkN g n') (rowsG g2 len k'))) (.b (vsB N l lim (mkN g n') (rowsG g2 len k'))) ([n = n', k = k', nb = (befL N.toNat l).length, nb' = (befL N.toNat l).length, h = nthD 0 (befL N.toNat l), N' = N, lim' = lim] ++ preA N l lim F (mkN g n') (rowsG g2 len k') s))
        else none
      | _, _, _ => none
    | _, _, _, _, _ => none
  | _, _ => none
def sCln : Sp := fun | [.is P] => some ([L9 P, 0 < P.length], .sl (fun k => .sl 0 k) (.is P)) | _ => none
def kCln (nm : List (Option AV)) : Nat × (List MBlk → List SV → Option AR) := (40, genF EL nm [.is] sCln)
def nmB (B : List Int) (k : Nat) : List (Option AV) := List.replicate k none ++ [some (.us B)]
def tabA (N : Int) (l : List Pq) (lim : Int) (F : Nat) (loops : List (Nat × PLoop)) (pins : List (Nat × (Option Addr × Nat))) : Tab := ⟨tyTab, [], [kFre [none, none, none, none, none, none, some (.us (befL N.toNat l))], kCln []], loops, [(39, kVisA N l lim F)], pins, [], [1000000]⟩
def vsK (N : Int) (l : List Pq) (P : List Int) (L : List (List Int)) (k : Nat) : List (List Int) := L ++ (nxtK l P k).flatMap (fun x => extP N l (P ++ [x]))
def lAl (N : Int) (l : List Pq) (lim : Int) (P : List Int) (L : List (List Int)) : LAnn := ⟨Nat, fun k => k ≤ N.toNat ∧ ((vsK N l P L k).length : Int) ≤ lim ∧ P.length < N.toNat, fun k => [(26, .i .i64 (k : Int))], fun k => [(0, .cells [.sl 5 P.length]), (5, .oarr 3 P.length (isCols P)), (2, .cells [.sl 7 (vsK N l P L k).length]), (7, .oarr 25 (vsK N l P L k).length (rsCols (vsK N l P L k)))], fun k => N.toNat - k, [5, 7], []⟩
def visPostA (N lim : Int) (B : List Int) (P : List Int) (L : List (List Int)) (b : Bool) : SV → List MBlk → Prop := fun sv m' => veq (.b b) sv ∧ memAll (expGo (visUpA N lim B P L) 0 8) m'
end Go.Proofs.Ytiokmglajigngaa
