/-
  The linext layer: All, Lists: what is computed.
-/
import Derived.Test.YtiokmglajigngaaU18
namespace Go.Proofs.Ytiokmglajigngaa
open Go Go.Proofs.Ytiokmglajigngaa.Sx
def alO (lim : Int) : Bool := decide (lim < 1) || decide (lim > 1048576)
def alB (N : Int) (l : List Pq) (lim : Int) : Bool := Nat.ble (extP N l []).length lim.toNat
def alE (N : Int) (l : List Pq) (lim : Int) : Int := bif okP N l then (bif alO lim then 2 else (bif alB N l lim then 0 else 4)) else errP N l
def alL (N : Int) (l : List Pq) (lim : Int) : List (List Int) := bif okP N l && !alO lim && alB N l lim then extP N l [] else []
def sAll : Sp := fun | [.r N l, .i lim] => some ([L9 l], .sl (fun k => .tup [.sl 0 k, .i .i64 (alE N l lim)]) (.rs (alL N l lim))) | _ => none
def kAll (nm : List (Option AV)) : Nat × (List MBlk → List SV → Option AR) := (19, genF EL nm [.r, .i] sAll)
def kAll' (nm : List (Option AV)) : Nat × (List MBlk → List SV → Option AR) := (20, genF EL nm [.r, .i] sAll)
def tabT (calls : Calling) (cb : List (Nat × (List MBlk → List SV → Option BRes))) (loops : List (Nat × PLoop)) (takes : List (Nat × (List Slot → List MBlk → List Gh))) (pins : List (Nat × (Option Addr × Nat))) (su : List Nat) : Tab := ⟨tyTab, [], calls, loops, cb, pins, takes, su⟩
def ghA : List Gh := [.fresh 7 0 3 1, .fresh 6 0 25 1, .cols 9 [.int .i64 (fun _ => 0)], .cols 10 [.rows (fun _ => 0) [fun _ _ => 0]]]
def ghZ : List Gh := [.fresh 6 0 25 1, .cols 9 [.rows (fun _ => 0) [fun _ _ => 0]]]
/-- A copy of nil. -/
def kClnZ : Nat × (List MBlk → List SV → Option AR) := (40, fun m vs => match vs with
  | [.nilsl] => some ⟨[], .sl m.length 0, [.oarr 3 0 (isCols [])]⟩
  | _ => none)
def visMZ (lim : Int) (g2 : Nat → Nat → Int) (len : Nat → Nat) (k : Nat) : List MBlk :=
  [.cells [.nilsl], .cells [.i .i64 0, .sl 5 0], .cells [.sl 6 k], .cells [.i .i64 lim], .cells [visFA], .oarr 54 0 (usCols []), .oarr 25 k [.rows len [g2]]]
def visUpZ (lim : Int) (L : List (List Int)) : List (Nat × MBlk) :=
  [(0, .cells [.nilsl]), (1, .cells [.i .i64 0, .sl 5 0]), (2, .cells [.sl 6 L.length]), (3, .cells [.i .i64 lim]), (4, .cells [visFA]), (5, .oarr 54 0 (usCols [])), (6, .oarr 25 L.length (rsCols L))]
def kVisZ (lim : Int) : List MBlk → List SV → Option BRes
  | m, [.i .u64 s, .ptr e1 0, .ptr e2 0, .ptr e3 0, .ptr e4 0, .ptr e5 0] => match nth m e1, nth m e2, nth m e3, nth m e4, nth m e5 with
    | some (.cells [.nilsl]), some (.cells [.i .i64 N', .sl q nb]), some (.cells [.sl w k]), some (.cells [.i .i64 lim']), some (.cells [.fn 39 [.ptr p1 0, .ptr p2 0, .ptr p3 0, .ptr p4 0, .ptr p5 0]]) => match nth m q, nth m w with
      | some (.oarr 54 nb' [.int .u64 h]), some (.oarr 25 k' [.rows len [g2]]) =>
        bif Nat.beq p1 e1 && Nat.beq p2 e2 && Nat.beq p3 e3 && Nat.beq p4 e4 && Nat.beq p5 e5 && nodupN [e1, e2, e3, e4, e5, q, w] then
          some (tB [e1, e2, e3, e4, e5, q, w] [6] (visUpZ lim (rowsG g2 len k' ++ [[]])) (.b (decide (((k' + 1 : Nat) : Int) ≤ lim))) [k = k', nb = 0, nb' = 0, h = nthD 0 [], N' = 0, lim' = lim, k' ≤ 1048576])
        else none
      | _, _ => none
    | _, _, _, _, _ => none
  | _, _ => none
def visPostZ (lim : Int) (L : List (List Int)) (b : Bool) : SV → List MBlk → Prop := fun sv m' => veq (.b b) sv ∧ memAll (expGo (visUpZ lim L) 0 7) m'
def sLst' : Sp := fun | [.rs a, .rs b] => some ([L9 a, L9 b, ∀ j, (nthD [] a j).length ≤ 1099511627776, ∀ j, (nthD [] b j).length ≤ 1099511627776], .pl (.b (decide (a = b)))) | _ => none
def kLsts (nm : List (Option AV)) : Nat × (List MBlk → List SV → Option AR) := (21, genF EL nm [.rs, .rs] sLst')
def lLsts (a b : List (List Int)) (t : Nat) : LAnn := lCnt a.length t (fun i => a.take i = b.take i) (fun _ => []) []
end Go.Proofs.Ytiokmglajigngaa
