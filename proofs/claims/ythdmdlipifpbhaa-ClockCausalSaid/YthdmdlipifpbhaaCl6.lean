/-
  A part of the proof (Cl6).
-/
import Derived.Test.YthdmdlipifpbhaaCl5
namespace Go.Proofs.Ythdmdlipifpbhaa
open Go Go.Proofs.Ythdmdlipifpbhaa.Sx
set_option maxRecDepth 100000
set_option linter.unusedSimpArgs false
set_option linter.unusedVariables false
def kSame : Nat × (List MBlk → List SV → Option AR) := (14, fC2 (fun a _ => L40 a) fun a b => .b (sameL a b))
def kGet : Nat × (List MBlk → List SV → Option AR) := (10, fC1i (fun l _ => L40 l) fun l a => .i .i64 (getL l a))
def kGet' : Nat × (List MBlk → List SV → Option AR) := (11, fC1i (fun l _ => L40 l) fun l a => .i .i64 (getL l a))
def kAdv : Nat × (List MBlk → List SV → Option AR) := (15, rC1i (fun l _ => L40 l) advanceL)
def kJn : Nat × (List MBlk → List SV → Option AR) := (17, rC2 (fun a b => L40 a ∧ L40 b) jnL)
def kMt : Nat × (List MBlk → List SV → Option AR) := (19, rC2 (fun a b => L40 a ∧ L40 b) meetL)
def kLs : Nat × (List MBlk → List SV → Option AR) := (21, fC2 (fun a b => L40 a ∧ L40 b) fun a b => .b (lessL a b))
def kCn : Nat × (List MBlk → List SV → Option AR) := (23, fC2 (fun a b => L40 a ∧ L40 b) fun a b => .b (concL a b))
def kSt : Nat × (List MBlk → List SV → Option AR) := (25, rSt)
theorem v9_eq : (fnVc (tab [kV, kSame, kGet, kAdv, kJn, kMt, kLs, kCn, kSt] []) Try.f9 [] [] (plainIs .tt)) = ((3 : Nat) = (3 : Nat) ∧
 (3 : Nat) = (3 : Nat) ∧
 (mkI (3 : Nat) (pickI [(1 : Int), (2 : Int), (1 : Int)])).length ≤ (1099511627776 : Nat) ∧
 (mkI (3 : Nat) (pickI [(-1 : Int), (0 : Int), (1 : Int)])).length ≤ (1099511627776 : Nat) ∧
 (((stampsR (mkI (3 : Nat) (pickI [(1 : Int), (2 : Int), (1 : Int)]))
 (mkI (3 : Nat) (pickI [(-1 : Int), (0 : Int), (1 : Int)]))).snd !=
 (0 : Int) ||
 (↑(stampsR (mkI (3 : Nat) (pickI [(1 : Int), (2 : Int), (1 : Int)]))
 (mkI (3 : Nat) (pickI [(-1 : Int), (0 : Int), (1 : Int)]))).fst.length :
 Int) !=
 (3 : Int)) =
 false →
 (0 : Int) ≤ (2 : Int) ∧
 (2 : Int) <
 (↑(stampsR (mkI (3 : Nat) (pickI [(1 : Int), (2 : Int), (1 : Int)]))
 (mkI (3 : Nat) (pickI [(-1 : Int), (0 : Int), (1 : Int)]))).fst.length :
 Int)) ∧
 (((stampsR (mkI (3 : Nat) (pickI [(1 : Int), (2 : Int), (1 : Int)]))
 (mkI (3 : Nat) (pickI [(-1 : Int), (0 : Int), (1 : Int)]))).snd !=
 (0 : Int) ||
 (↑(stampsR (mkI (3 : Nat) (pickI [(1 : Int), (2 : Int), (1 : Int)]))
 (mkI (3 : Nat) (pickI [(-1 : Int), (0 : Int), (1 : Int)]))).fst.length :
 Int) !=
 (3 : Int)) =
 false →
 Int.toNat (2 : Int) <
 (stampsR (mkI (3 : Nat) (pickI [(1 : Int), (2 : Int), (1 : Int)]))
 (mkI (3 : Nat) (pickI [(-1 : Int), (0 : Int), (1 : Int)]))).fst.length) ∧
 (((stampsR (mkI (3 : Nat) (pickI [(1 : Int), (2 : Int), (1 : Int)]))
 (mkI (3 : Nat) (pickI [(-1 : Int), (0 : Int), (1 : Int)]))).snd !=
 (0 : Int) ||
 (↑(stampsR (mkI (3 : Nat) (pickI [(1 : Int), (2 : Int), (1 : Int)]))
 (mkI (3 : Nat) (pickI [(-1 : Int), (0 : Int), (1 : Int)]))).fst.length :
 Int) !=
 (3 : Int)) =
 false →
 (nthC
 (stampsR (mkI (3 : Nat) (pickI [(1 : Int), (2 : Int), (1 : Int)]))
 (mkI (3 : Nat) (pickI [(-1 : Int), (0 : Int), (1 : Int)]))).fst
 (Int.toNat (2 : Int))).length =
 (nthC
 (stampsR (mkI (3 : Nat) (pickI [(1 : Int), (2 : Int), (1 : Int)]))
 (mkI (3 : Nat) (pickI [(-1 : Int), (0 : Int), (1 : Int)]))).fst
 (Int.toNat (2 : Int))).length) ∧
 (((stampsR (mkI (3 : Nat) (pickI [(1 : Int), (2 : Int), (1 : Int)]))
 (mkI (3 : Nat) (pickI [(-1 : Int), (0 : Int), (1 : Int)]))).snd !=
 (0 : Int) ||
 (↑(stampsR (mkI (3 : Nat) (pickI [(1 : Int), (2 : Int), (1 : Int)]))
 (mkI (3 : Nat) (pickI [(-1 : Int), (0 : Int), (1 : Int)]))).fst.length :
 Int) !=
 (3 : Int)) =
 false →
 (2 : Nat) = (2 : Nat)) ∧
 (((stampsR (mkI (3 : Nat) (pickI [(1 : Int), (2 : Int), (1 : Int)]))
 (mkI (3 : Nat) (pickI [(-1 : Int), (0 : Int), (1 : Int)]))).snd !=
 (0 : Int) ||
 (↑(stampsR (mkI (3 : Nat) (pickI [(1 : Int), (2 : Int), (1 : Int)]))
 (mkI (3 : Nat) (pickI [(-1 : Int), (0 : Int), (1 : Int)]))).fst.length :
 Int) !=
 (3 : Int)) =
 false →
 (mkL
 (nthC
 (stampsR (mkI (3 : Nat) (pickI [(1 : Int), (2 : Int), (1 : Int)]))
 (mkI (3 : Nat) (pickI [(-1 : Int), (0 : Int), (1 : Int)]))).fst
 (Int.toNat (2 : Int))).length
 (agF
 (nthC
 (stampsR (mkI (3 : Nat) (pickI [(1 : Int), (2 : Int), (1 : Int)]))
 (mkI (3 : Nat) (pickI [(-1 : Int), (0 : Int), (1 : Int)]))).fst
 (Int.toNat (2 : Int))))
 (ctF
 (nthC
 (stampsR (mkI (3 : Nat) (pickI [(1 : Int), (2 : Int), (1 : Int)]))
 (mkI (3 : Nat) (pickI [(-1 : Int), (0 : Int), (1 : Int)]))).fst
 (Int.toNat (2 : Int))))).length ≤
 (1099511627776 : Nat)) ∧
 (((stampsR (mkI (3 : Nat) (pickI [(1 : Int), (2 : Int), (1 : Int)]))
 (mkI (3 : Nat) (pickI [(-1 : Int), (0 : Int), (1 : Int)]))).snd !=
 (0 : Int) ||
 (↑(stampsR (mkI (3 : Nat) (pickI [(1 : Int), (2 : Int), (1 : Int)]))
 (mkI (3 : Nat) (pickI [(-1 : Int), (0 : Int), (1 : Int)]))).fst.length :
 Int) !=
 (3 : Int) ||
 !sameL
 (mkL
 (nthC
 (stampsR (mkI (3 : Nat) (pickI [(1 : Int), (2 : Int), (1 : Int)]))
 (mkI (3 : Nat) (pickI [(-1 : Int), (0 : Int), (1 : Int)]))).fst
 (Int.toNat (2 : Int))).length
 (agF
 (nthC
 (stampsR (mkI (3 : Nat) (pickI [(1 : Int), (2 : Int), (1 : Int)]))
 (mkI (3 : Nat) (pickI [(-1 : Int), (0 : Int), (1 : Int)]))).fst
 (Int.toNat (2 : Int))))
 (ctF
 (nthC
 (stampsR (mkI (3 : Nat) (pickI [(1 : Int), (2 : Int), (1 : Int)]))
 (mkI (3 : Nat) (pickI [(-1 : Int), (0 : Int), (1 : Int)]))).fst
 (Int.toNat (2 : Int)))))
 (mkL (2 : Nat) (pickI [(1 : Int), (2 : Int)]) (pickI [(2 : Int), (1 : Int)]))) =
 true →
 false = true) ∧
 (((stampsR (mkI (3 : Nat) (pickI [(1 : Int), (2 : Int), (1 : Int)]))
 (mkI (3 : Nat) (pickI [(-1 : Int), (0 : Int), (1 : Int)]))).snd !=
 (0 : Int) ||
 (↑(stampsR (mkI (3 : Nat) (pickI [(1 : Int), (2 : Int), (1 : Int)]))
 (mkI (3 : Nat) (pickI [(-1 : Int), (0 : Int), (1 : Int)]))).fst.length :
 Int) !=
 (3 : Int) ||
 !sameL
 (mkL
 (nthC
 (stampsR (mkI (3 : Nat) (pickI [(1 : Int), (2 : Int), (1 : Int)]))
 (mkI (3 : Nat) (pickI [(-1 : Int), (0 : Int), (1 : Int)]))).fst
 (Int.toNat (2 : Int))).length
 (agF
 (nthC
 (stampsR (mkI (3 : Nat) (pickI [(1 : Int), (2 : Int), (1 : Int)]))
 (mkI (3 : Nat) (pickI [(-1 : Int), (0 : Int), (1 : Int)]))).fst
 (Int.toNat (2 : Int))))
 (ctF
 (nthC
 (stampsR (mkI (3 : Nat) (pickI [(1 : Int), (2 : Int), (1 : Int)]))
 (mkI (3 : Nat) (pickI [(-1 : Int), (0 : Int), (1 : Int)]))).fst
 (Int.toNat (2 : Int)))))
 (mkL (2 : Nat) (pickI [(1 : Int), (2 : Int)]) (pickI [(2 : Int), (1 : Int)]))) =
 false →
 (2 : Nat) = (2 : Nat) ∧
 (2 : Nat) = (2 : Nat) ∧
 ((mkL (2 : Nat) (pickI [(1 : Int), (3 : Int)]) (pickI [(2 : Int), (1 : Int)])).length ≤
 (1099511627776 : Nat) ∧
 (mkL (2 : Nat) (pickI [(1 : Int), (2 : Int)]) (pickI [(1 : Int), (5 : Int)])).length ≤
 (1099511627776 : Nat)) ∧
 (jnL (mkL (2 : Nat) (pickI [(1 : Int), (3 : Int)]) (pickI [(2 : Int), (1 : Int)]))
 (mkL (2 : Nat) (pickI [(1 : Int), (2 : Int)])
 (pickI [(1 : Int), (5 : Int)]))).length =
 (jnL (mkL (2 : Nat) (pickI [(1 : Int), (3 : Int)]) (pickI [(2 : Int), (1 : Int)]))
 (mkL (2 : Nat) (pickI [(1 : Int), (2 : Int)])
 (pickI [(1 : Int), (5 : Int)]))).length ∧
 (3 : Nat) = (3 : Nat) ∧
 (mkL
 (jnL
 (mkL (2 : Nat) (pickI [(1 : Int), (3 : Int)])
 (pickI [(2 : Int), (1 : Int)]))
 (mkL (2 : Nat) (pickI [(1 : Int), (2 : Int)])
 (pickI [(1 : Int), (5 : Int)]))).length
 (agF
 (jnL
 (mkL (2 : Nat) (pickI [(1 : Int), (3 : Int)])
 (pickI [(2 : Int), (1 : Int)]))
 (mkL (2 : Nat) (pickI [(1 : Int), (2 : Int)])
 (pickI [(1 : Int), (5 : Int)]))))
 (ctF
 (jnL
 (mkL (2 : Nat) (pickI [(1 : Int), (3 : Int)])
 (pickI [(2 : Int), (1 : Int)]))
 (mkL (2 : Nat) (pickI [(1 : Int), (2 : Int)])
 (pickI [(1 : Int), (5 : Int)]))))).length ≤
 (1099511627776 : Nat) ∧
 (sameL
 (mkL
 (jnL
 (mkL (2 : Nat) (pickI [(1 : Int), (3 : Int)])
 (pickI [(2 : Int), (1 : Int)]))
 (mkL (2 : Nat) (pickI [(1 : Int), (2 : Int)])
 (pickI [(1 : Int), (5 : Int)]))).length
 (agF
 (jnL
 (mkL (2 : Nat) (pickI [(1 : Int), (3 : Int)])
 (pickI [(2 : Int), (1 : Int)]))
 (mkL (2 : Nat) (pickI [(1 : Int), (2 : Int)])
 (pickI [(1 : Int), (5 : Int)]))))
 (ctF
 (jnL
 (mkL (2 : Nat) (pickI [(1 : Int), (3 : Int)])
 (pickI [(2 : Int), (1 : Int)]))
 (mkL (2 : Nat) (pickI [(1 : Int), (2 : Int)])
 (pickI [(1 : Int), (5 : Int)])))))
 (mkL (3 : Nat) (pickI [(1 : Int), (2 : Int), (3 : Int)])
 (pickI [(2 : Int), (5 : Int), (1 : Int)])) =
 true →
 (2 : Nat) = (2 : Nat)) ∧
 (sameL
 (mkL
 (jnL
 (mkL (2 : Nat) (pickI [(1 : Int), (3 : Int)])
 (pickI [(2 : Int), (1 : Int)]))
 (mkL (2 : Nat) (pickI [(1 : Int), (2 : Int)])
 (pickI [(1 : Int), (5 : Int)]))).length
 (agF
 (jnL
 (mkL (2 : Nat) (pickI [(1 : Int), (3 : Int)])
 (pickI [(2 : Int), (1 : Int)]))
 (mkL (2 : Nat) (pickI [(1 : Int), (2 : Int)])
 (pickI [(1 : Int), (5 : Int)]))))
 (ctF
 (jnL
 (mkL (2 : Nat) (pickI [(1 : Int), (3 : Int)])
 (pickI [(2 : Int), (1 : Int)]))
 (mkL (2 : Nat) (pickI [(1 : Int), (2 : Int)])
 (pickI [(1 : Int), (5 : Int)])))))
 (mkL (3 : Nat) (pickI [(1 : Int), (2 : Int), (3 : Int)])
 (pickI [(2 : Int), (5 : Int), (1 : Int)])) =
 true →
 (2 : Nat) = (2 : Nat)) ∧
 (sameL
 (mkL
 (jnL
 (mkL (2 : Nat) (pickI [(1 : Int), (3 : Int)])
 (pickI [(2 : Int), (1 : Int)]))
 (mkL (2 : Nat) (pickI [(1 : Int), (2 : Int)])
 (pickI [(1 : Int), (5 : Int)]))).length
 (agF
 (jnL
 (mkL (2 : Nat) (pickI [(1 : Int), (3 : Int)])
 (pickI [(2 : Int), (1 : Int)]))
 (mkL (2 : Nat) (pickI [(1 : Int), (2 : Int)])
 (pickI [(1 : Int), (5 : Int)]))))
 (ctF
 (jnL
 (mkL (2 : Nat) (pickI [(1 : Int), (3 : Int)])
 (pickI [(2 : Int), (1 : Int)]))
 (mkL (2 : Nat) (pickI [(1 : Int), (2 : Int)])
 (pickI [(1 : Int), (5 : Int)])))))
 (mkL (3 : Nat) (pickI [(1 : Int), (2 : Int), (3 : Int)])
 (pickI [(2 : Int), (5 : Int), (1 : Int)])) =
 true →
 (mkL (2 : Nat) (pickI [(1 : Int), (3 : Int)])
 (pickI [(2 : Int), (1 : Int)])).length ≤
 (1099511627776 : Nat) ∧
 (mkL (2 : Nat) (pickI [(1 : Int), (2 : Int)])
 (pickI [(1 : Int), (5 : Int)])).length ≤
 (1099511627776 : Nat)) ∧
 (sameL
 (mkL
 (jnL
 (mkL (2 : Nat) (pickI [(1 : Int), (3 : Int)])
 (pickI [(2 : Int), (1 : Int)]))
 (mkL (2 : Nat) (pickI [(1 : Int), (2 : Int)])
 (pickI [(1 : Int), (5 : Int)]))).length
 (agF
 (jnL
 (mkL (2 : Nat) (pickI [(1 : Int), (3 : Int)])
 (pickI [(2 : Int), (1 : Int)]))
 (mkL (2 : Nat) (pickI [(1 : Int), (2 : Int)])
 (pickI [(1 : Int), (5 : Int)]))))
 (ctF
 (jnL
 (mkL (2 : Nat) (pickI [(1 : Int), (3 : Int)])
 (pickI [(2 : Int), (1 : Int)]))
 (mkL (2 : Nat) (pickI [(1 : Int), (2 : Int)])
 (pickI [(1 : Int), (5 : Int)])))))
 (mkL (3 : Nat) (pickI [(1 : Int), (2 : Int), (3 : Int)])
 (pickI [(2 : Int), (5 : Int), (1 : Int)])) =
 true →
 (meetL
 (mkL (2 : Nat) (pickI [(1 : Int), (3 : Int)])
 (pickI [(2 : Int), (1 : Int)]))
 (mkL (2 : Nat) (pickI [(1 : Int), (2 : Int)])
 (pickI [(1 : Int), (5 : Int)]))).length =
 (meetL
 (mkL (2 : Nat) (pickI [(1 : Int), (3 : Int)])
 (pickI [(2 : Int), (1 : Int)]))
 (mkL (2 : Nat) (pickI [(1 : Int), (2 : Int)])
 (pickI [(1 : Int), (5 : Int)]))).length) ∧
 (sameL
 (mkL
 (jnL
 (mkL (2 : Nat) (pickI [(1 : Int), (3 : Int)])
 (pickI [(2 : Int), (1 : Int)]))
 (mkL (2 : Nat) (pickI [(1 : Int), (2 : Int)])
 (pickI [(1 : Int), (5 : Int)]))).length
 (agF
 (jnL
 (mkL (2 : Nat) (pickI [(1 : Int), (3 : Int)])
 (pickI [(2 : Int), (1 : Int)]))
 (mkL (2 : Nat) (pickI [(1 : Int), (2 : Int)])
 (pickI [(1 : Int), (5 : Int)]))))
 (ctF
 (jnL
 (mkL (2 : Nat) (pickI [(1 : Int), (3 : Int)])
 (pickI [(2 : Int), (1 : Int)]))
 (mkL (2 : Nat) (pickI [(1 : Int), (2 : Int)])
 (pickI [(1 : Int), (5 : Int)])))))
 (mkL (3 : Nat) (pickI [(1 : Int), (2 : Int), (3 : Int)])
 (pickI [(2 : Int), (5 : Int), (1 : Int)])) =
 true →
 (1 : Nat) = (1 : Nat)) ∧
 (sameL
 (mkL
 (jnL
 (mkL (2 : Nat) (pickI [(1 : Int), (3 : Int)])
 (pickI [(2 : Int), (1 : Int)]))
 (mkL (2 : Nat) (pickI [(1 : Int), (2 : Int)])
 (pickI [(1 : Int), (5 : Int)]))).length
 (agF
 (jnL
 (mkL (2 : Nat) (pickI [(1 : Int), (3 : Int)])
 (pickI [(2 : Int), (1 : Int)]))
 (mkL (2 : Nat) (pickI [(1 : Int), (2 : Int)])
 (pickI [(1 : Int), (5 : Int)]))))
 (ctF
 (jnL
 (mkL (2 : Nat) (pickI [(1 : Int), (3 : Int)])
 (pickI [(2 : Int), (1 : Int)]))
 (mkL (2 : Nat) (pickI [(1 : Int), (2 : Int)])
 (pickI [(1 : Int), (5 : Int)])))))
 (mkL (3 : Nat) (pickI [(1 : Int), (2 : Int), (3 : Int)])
 (pickI [(2 : Int), (5 : Int), (1 : Int)])) =
 true →
 (mkL
 (meetL
 (mkL (2 : Nat) (pickI [(1 : Int), (3 : Int)])
 (pickI [(2 : Int), (1 : Int)]))
 (mkL (2 : Nat) (pickI [(1 : Int), (2 : Int)])
 (pickI [(1 : Int), (5 : Int)]))).length
 (agF
 (meetL
 (mkL (2 : Nat) (pickI [(1 : Int), (3 : Int)])
 (pickI [(2 : Int), (1 : Int)]))
 (mkL (2 : Nat) (pickI [(1 : Int), (2 : Int)])
 (pickI [(1 : Int), (5 : Int)]))))
 (ctF
 (meetL
 (mkL (2 : Nat) (pickI [(1 : Int), (3 : Int)])
 (pickI [(2 : Int), (1 : Int)]))
 (mkL (2 : Nat) (pickI [(1 : Int), (2 : Int)])
 (pickI [(1 : Int), (5 : Int)]))))).length ≤
 (1099511627776 : Nat)) ∧
 ((sameL
 (mkL
 (jnL
 (mkL (2 : Nat) (pickI [(1 : Int), (3 : Int)])
 (pickI [(2 : Int), (1 : Int)]))
 (mkL (2 : Nat) (pickI [(1 : Int), (2 : Int)])
 (pickI [(1 : Int), (5 : Int)]))).length
 (agF
 (jnL
 (mkL (2 : Nat) (pickI [(1 : Int), (3 : Int)])
 (pickI [(2 : Int), (1 : Int)]))
 (mkL (2 : Nat) (pickI [(1 : Int), (2 : Int)])
 (pickI [(1 : Int), (5 : Int)]))))
 (ctF
 (jnL
 (mkL (2 : Nat) (pickI [(1 : Int), (3 : Int)])
 (pickI [(2 : Int), (1 : Int)]))
 (mkL (2 : Nat) (pickI [(1 : Int), (2 : Int)])
 (pickI [(1 : Int), (5 : Int)])))))
 (mkL (3 : Nat) (pickI [(1 : Int), (2 : Int), (3 : Int)])
 (pickI [(2 : Int), (5 : Int), (1 : Int)])) &&
 sameL
 (mkL
 (meetL
 (mkL (2 : Nat) (pickI [(1 : Int), (3 : Int)])
 (pickI [(2 : Int), (1 : Int)]))
 (mkL (2 : Nat) (pickI [(1 : Int), (2 : Int)])
 (pickI [(1 : Int), (5 : Int)]))).length
 (agF
 (meetL
 (mkL (2 : Nat) (pickI [(1 : Int), (3 : Int)])
 (pickI [(2 : Int), (1 : Int)]))
 (mkL (2 : Nat) (pickI [(1 : Int), (2 : Int)])
 (pickI [(1 : Int), (5 : Int)]))))
 (ctF
 (meetL
 (mkL (2 : Nat) (pickI [(1 : Int), (3 : Int)])
 (pickI [(2 : Int), (1 : Int)]))
 (mkL (2 : Nat) (pickI [(1 : Int), (2 : Int)])
 (pickI [(1 : Int), (5 : Int)])))))
 (mkL (1 : Nat) (pickI [(1 : Int)]) (pickI [(1 : Int)]))) =
 true →
 (2 : Nat) = (2 : Nat)) ∧
 ((sameL
 (mkL
 (jnL
 (mkL (2 : Nat) (pickI [(1 : Int), (3 : Int)])
 (pickI [(2 : Int), (1 : Int)]))
 (mkL (2 : Nat) (pickI [(1 : Int), (2 : Int)])
 (pickI [(1 : Int), (5 : Int)]))).length
 (agF
 (jnL
 (mkL (2 : Nat) (pickI [(1 : Int), (3 : Int)])
 (pickI [(2 : Int), (1 : Int)]))
 (mkL (2 : Nat) (pickI [(1 : Int), (2 : Int)])
 (pickI [(1 : Int), (5 : Int)]))))
 (ctF
 (jnL
 (mkL (2 : Nat) (pickI [(1 : Int), (3 : Int)])
 (pickI [(2 : Int), (1 : Int)]))
 (mkL (2 : Nat) (pickI [(1 : Int), (2 : Int)])
 (pickI [(1 : Int), (5 : Int)])))))
 (mkL (3 : Nat) (pickI [(1 : Int), (2 : Int), (3 : Int)])
 (pickI [(2 : Int), (5 : Int), (1 : Int)])) &&
 sameL
 (mkL
 (meetL
 (mkL (2 : Nat) (pickI [(1 : Int), (3 : Int)])
 (pickI [(2 : Int), (1 : Int)]))
 (mkL (2 : Nat) (pickI [(1 : Int), (2 : Int)])
 (pickI [(1 : Int), (5 : Int)]))).length
 (agF
 (meetL
 (mkL (2 : Nat) (pickI [(1 : Int), (3 : Int)])
 (pickI [(2 : Int), (1 : Int)]))
 (mkL (2 : Nat) (pickI [(1 : Int), (2 : Int)])
 (pickI [(1 : Int), (5 : Int)]))))
 (ctF
 (meetL
 (mkL (2 : Nat) (pickI [(1 : Int), (3 : Int)])
 (pickI [(2 : Int), (1 : Int)]))
 (mkL (2 : Nat) (pickI [(1 : Int), (2 : Int)])
 (pickI [(1 : Int), (5 : Int)])))))
 (mkL (1 : Nat) (pickI [(1 : Int)]) (pickI [(1 : Int)]))) =
 true →
 (2 : Nat) = (2 : Nat)) ∧
 ((sameL
 (mkL
 (jnL
 (mkL (2 : Nat) (pickI [(1 : Int), (3 : Int)])
 (pickI [(2 : Int), (1 : Int)]))
 (mkL (2 : Nat) (pickI [(1 : Int), (2 : Int)])
 (pickI [(1 : Int), (5 : Int)]))).length
 (agF
 (jnL
 (mkL (2 : Nat) (pickI [(1 : Int), (3 : Int)])
 (pickI [(2 : Int), (1 : Int)]))
 (mkL (2 : Nat) (pickI [(1 : Int), (2 : Int)])
 (pickI [(1 : Int), (5 : Int)]))))
 (ctF
 (jnL
 (mkL (2 : Nat) (pickI [(1 : Int), (3 : Int)])
 (pickI [(2 : Int), (1 : Int)]))
 (mkL (2 : Nat) (pickI [(1 : Int), (2 : Int)])
 (pickI [(1 : Int), (5 : Int)])))))
 (mkL (3 : Nat) (pickI [(1 : Int), (2 : Int), (3 : Int)])
 (pickI [(2 : Int), (5 : Int), (1 : Int)])) &&
 sameL
 (mkL
 (meetL
 (mkL (2 : Nat) (pickI [(1 : Int), (3 : Int)])
 (pickI [(2 : Int), (1 : Int)]))
 (mkL (2 : Nat) (pickI [(1 : Int), (2 : Int)])
 (pickI [(1 : Int), (5 : Int)]))).length
 (agF
 (meetL
 (mkL (2 : Nat) (pickI [(1 : Int), (3 : Int)])
 (pickI [(2 : Int), (1 : Int)]))
 (mkL (2 : Nat) (pickI [(1 : Int), (2 : Int)])
 (pickI [(1 : Int), (5 : Int)]))))
 (ctF
 (meetL
 (mkL (2 : Nat) (pickI [(1 : Int), (3 : Int)])
 (pickI [(2 : Int), (1 : Int)]))
 (mkL (2 : Nat) (pickI [(1 : Int), (2 : Int)])
 (pickI [(1 : Int), (5 : Int)])))))
 (mkL (1 : Nat) (pickI [(1 : Int)]) (pickI [(1 : Int)]))) =
 true →
 (mkL (2 : Nat) (pickI [(1 : Int), (3 : Int)])
 (pickI [(2 : Int), (1 : Int)])).length ≤
 (1099511627776 : Nat) ∧
 (mkL (2 : Nat) (pickI [(1 : Int), (2 : Int)])
 (pickI [(1 : Int), (5 : Int)])).length ≤
 (1099511627776 : Nat)) ∧
 ((sameL
 (mkL
 (jnL
 (mkL (2 : Nat) (pickI [(1 : Int), (3 : Int)])
 (pickI [(2 : Int), (1 : Int)]))
 (mkL (2 : Nat) (pickI [(1 : Int), (2 : Int)])
 (pickI [(1 : Int), (5 : Int)]))).length
 (agF
 (jnL
 (mkL (2 : Nat) (pickI [(1 : Int), (3 : Int)])
 (pickI [(2 : Int), (1 : Int)]))
 (mkL (2 : Nat) (pickI [(1 : Int), (2 : Int)])
 (pickI [(1 : Int), (5 : Int)]))))
 (ctF
 (jnL
 (mkL (2 : Nat) (pickI [(1 : Int), (3 : Int)])
 (pickI [(2 : Int), (1 : Int)]))
 (mkL (2 : Nat) (pickI [(1 : Int), (2 : Int)])
 (pickI [(1 : Int), (5 : Int)])))))
 (mkL (3 : Nat) (pickI [(1 : Int), (2 : Int), (3 : Int)])
 (pickI [(2 : Int), (5 : Int), (1 : Int)])) &&
 sameL
 (mkL
 (meetL
 (mkL (2 : Nat) (pickI [(1 : Int), (3 : Int)])
 (pickI [(2 : Int), (1 : Int)]))
 (mkL (2 : Nat) (pickI [(1 : Int), (2 : Int)])
 (pickI [(1 : Int), (5 : Int)]))).length
 (agF
 (meetL
 (mkL (2 : Nat) (pickI [(1 : Int), (3 : Int)])
 (pickI [(2 : Int), (1 : Int)]))
 (mkL (2 : Nat) (pickI [(1 : Int), (2 : Int)])
 (pickI [(1 : Int), (5 : Int)]))))
 (ctF
 (meetL
 (mkL (2 : Nat) (pickI [(1 : Int), (3 : Int)])
 (pickI [(2 : Int), (1 : Int)]))
 (mkL (2 : Nat) (pickI [(1 : Int), (2 : Int)])
 (pickI [(1 : Int), (5 : Int)])))))
 (mkL (1 : Nat) (pickI [(1 : Int)])
 (pickI [(1 : Int)])) &&
 concL
 (mkL (2 : Nat) (pickI [(1 : Int), (3 : Int)])
 (pickI [(2 : Int), (1 : Int)]))
 (mkL (2 : Nat) (pickI [(1 : Int), (2 : Int)])
 (pickI [(1 : Int), (5 : Int)]))) =
 true →
 (0 : Int) ≤ (0 : Int) ∧
 (0 : Int) <
 (↑(stampsR
 (mkI (3 : Nat)
 (pickI [(1 : Int), (2 : Int), (1 : Int)]))
 (mkI (3 : Nat)
 (pickI
 [(-1 : Int), (0 : Int),
 (1 : Int)]))).fst.length :
 Int)) ∧
 ((sameL
 (mkL
 (jnL
 (mkL (2 : Nat) (pickI [(1 : Int), (3 : Int)])
 (pickI [(2 : Int), (1 : Int)]))
 (mkL (2 : Nat) (pickI [(1 : Int), (2 : Int)])
 (pickI [(1 : Int), (5 : Int)]))).length
 (agF
 (jnL
 (mkL (2 : Nat) (pickI [(1 : Int), (3 : Int)])
 (pickI [(2 : Int), (1 : Int)]))
 (mkL (2 : Nat) (pickI [(1 : Int), (2 : Int)])
 (pickI [(1 : Int), (5 : Int)]))))
 (ctF
 (jnL
 (mkL (2 : Nat) (pickI [(1 : Int), (3 : Int)])
 (pickI [(2 : Int), (1 : Int)]))
 (mkL (2 : Nat) (pickI [(1 : Int), (2 : Int)])
 (pickI [(1 : Int), (5 : Int)])))))
 (mkL (3 : Nat)
 (pickI [(1 : Int), (2 : Int), (3 : Int)])
 (pickI [(2 : Int), (5 : Int), (1 : Int)])) &&
 sameL
 (mkL
 (meetL
 (mkL (2 : Nat) (pickI [(1 : Int), (3 : Int)])
 (pickI [(2 : Int), (1 : Int)]))
 (mkL (2 : Nat) (pickI [(1 : Int), (2 : Int)])
 (pickI [(1 : Int), (5 : Int)]))).length
 (agF
 (meetL
 (mkL (2 : Nat) (pickI [(1 : Int), (3 : Int)])
 (pickI [(2 : Int), (1 : Int)]))
 (mkL (2 : Nat) (pickI [(1 : Int), (2 : Int)])
 (pickI [(1 : Int), (5 : Int)]))))
 (ctF
 (meetL
 (mkL (2 : Nat) (pickI [(1 : Int), (3 : Int)])
 (pickI [(2 : Int), (1 : Int)]))
 (mkL (2 : Nat) (pickI [(1 : Int), (2 : Int)])
 (pickI [(1 : Int), (5 : Int)])))))
 (mkL (1 : Nat) (pickI [(1 : Int)])
 (pickI [(1 : Int)])) &&
 concL
 (mkL (2 : Nat) (pickI [(1 : Int), (3 : Int)])
 (pickI [(2 : Int), (1 : Int)]))
 (mkL (2 : Nat) (pickI [(1 : Int), (2 : Int)])
 (pickI [(1 : Int), (5 : Int)]))) =
 true →
 Int.toNat (0 : Int) <
 (stampsR
 (mkI (3 : Nat)
 (pickI [(1 : Int), (2 : Int), (1 : Int)]))
 (mkI (3 : Nat)
 (pickI
 [(-1 : Int), (0 : Int),
 (1 : Int)]))).fst.length) ∧
 ((sameL
 (mkL
 (jnL
 (mkL (2 : Nat) (pickI [(1 : Int), (3 : Int)])
 (pickI [(2 : Int), (1 : Int)]))
 (mkL (2 : Nat) (pickI [(1 : Int), (2 : Int)])
 (pickI [(1 : Int), (5 : Int)]))).length
 (agF
 (jnL
 (mkL (2 : Nat) (pickI [(1 : Int), (3 : Int)])
 (pickI [(2 : Int), (1 : Int)]))
 (mkL (2 : Nat) (pickI [(1 : Int), (2 : Int)])
 (pickI [(1 : Int), (5 : Int)]))))
 (ctF
 (jnL
 (mkL (2 : Nat) (pickI [(1 : Int), (3 : Int)])
 (pickI [(2 : Int), (1 : Int)]))
 (mkL (2 : Nat) (pickI [(1 : Int), (2 : Int)])
 (pickI [(1 : Int), (5 : Int)])))))
 (mkL (3 : Nat)
 (pickI [(1 : Int), (2 : Int), (3 : Int)])
 (pickI [(2 : Int), (5 : Int), (1 : Int)])) &&
 sameL
 (mkL
 (meetL
 (mkL (2 : Nat) (pickI [(1 : Int), (3 : Int)])
 (pickI [(2 : Int), (1 : Int)]))
 (mkL (2 : Nat) (pickI [(1 : Int), (2 : Int)])
 (pickI [(1 : Int), (5 : Int)]))).length
 (agF
 (meetL
 (mkL (2 : Nat) (pickI [(1 : Int), (3 : Int)])
 (pickI [(2 : Int), (1 : Int)]))
 (mkL (2 : Nat) (pickI [(1 : Int), (2 : Int)])
 (pickI [(1 : Int), (5 : Int)]))))
 (ctF
 (meetL
 (mkL (2 : Nat) (pickI [(1 : Int), (3 : Int)])
 (pickI [(2 : Int), (1 : Int)]))
 (mkL (2 : Nat) (pickI [(1 : Int), (2 : Int)])
 (pickI [(1 : Int), (5 : Int)])))))
 (mkL (1 : Nat) (pickI [(1 : Int)])
 (pickI [(1 : Int)])) &&
 concL
 (mkL (2 : Nat) (pickI [(1 : Int), (3 : Int)])
 (pickI [(2 : Int), (1 : Int)]))
 (mkL (2 : Nat) (pickI [(1 : Int), (2 : Int)])
 (pickI [(1 : Int), (5 : Int)]))) =
 true →
 (0 : Int) ≤ (1 : Int) ∧
 (1 : Int) <
 (↑(stampsR
 (mkI (3 : Nat)
 (pickI [(1 : Int), (2 : Int), (1 : Int)]))
 (mkI (3 : Nat)
 (pickI
 [(-1 : Int), (0 : Int),
 (1 : Int)]))).fst.length :
 Int)) ∧
 ((sameL
 (mkL
 (jnL
 (mkL (2 : Nat)
 (pickI [(1 : Int), (3 : Int)])
 (pickI [(2 : Int), (1 : Int)]))
 (mkL (2 : Nat)
 (pickI [(1 : Int), (2 : Int)])
 (pickI [(1 : Int), (5 : Int)]))).length
 (agF
 (jnL
 (mkL (2 : Nat)
 (pickI [(1 : Int), (3 : Int)])
 (pickI [(2 : Int), (1 : Int)]))
 (mkL (2 : Nat)
 (pickI [(1 : Int), (2 : Int)])
 (pickI [(1 : Int), (5 : Int)]))))
 (ctF
 (jnL
 (mkL (2 : Nat)
 (pickI [(1 : Int), (3 : Int)])
 (pickI [(2 : Int), (1 : Int)]))
 (mkL (2 : Nat)
 (pickI [(1 : Int), (2 : Int)])
 (pickI [(1 : Int), (5 : Int)])))))
 (mkL (3 : Nat)
 (pickI [(1 : Int), (2 : Int), (3 : Int)])
 (pickI [(2 : Int), (5 : Int), (1 : Int)])) &&
 sameL
 (mkL
 (meetL
 (mkL (2 : Nat)
 (pickI [(1 : Int), (3 : Int)])
 (pickI [(2 : Int), (1 : Int)]))
 (mkL (2 : Nat)
 (pickI [(1 : Int), (2 : Int)])
 (pickI [(1 : Int), (5 : Int)]))).length
 (agF
 (meetL
 (mkL (2 : Nat)
 (pickI [(1 : Int), (3 : Int)])
 (pickI [(2 : Int), (1 : Int)]))
 (mkL (2 : Nat)
 (pickI [(1 : Int), (2 : Int)])
 (pickI [(1 : Int), (5 : Int)]))))
 (ctF
 (meetL
 (mkL (2 : Nat)
 (pickI [(1 : Int), (3 : Int)])
 (pickI [(2 : Int), (1 : Int)]))
 (mkL (2 : Nat)
 (pickI [(1 : Int), (2 : Int)])
 (pickI [(1 : Int), (5 : Int)])))))
 (mkL (1 : Nat) (pickI [(1 : Int)])
 (pickI [(1 : Int)])) &&
 concL
 (mkL (2 : Nat) (pickI [(1 : Int), (3 : Int)])
 (pickI [(2 : Int), (1 : Int)]))
 (mkL (2 : Nat) (pickI [(1 : Int), (2 : Int)])
 (pickI [(1 : Int), (5 : Int)]))) =
 true →
 Int.toNat (1 : Int) <
 (stampsR
 (mkI (3 : Nat)
 (pickI [(1 : Int), (2 : Int), (1 : Int)]))
 (mkI (3 : Nat)
 (pickI
 [(-1 : Int), (0 : Int),
 (1 : Int)]))).fst.length) ∧
 ((sameL
 (mkL
 (jnL
 (mkL (2 : Nat)
 (pickI [(1 : Int), (3 : Int)])
 (pickI [(2 : Int), (1 : Int)]))
 (mkL (2 : Nat)
 (pickI [(1 : Int), (2 : Int)])
 (pickI [(1 : Int), (5 : Int)]))).length
 (agF
 (jnL
 (mkL (2 : Nat)
 (pickI [(1 : Int), (3 : Int)])
 (pickI [(2 : Int), (1 : Int)]))
 (mkL (2 : Nat)
 (pickI [(1 : Int), (2 : Int)])
 (pickI [(1 : Int), (5 : Int)]))))
 (ctF
 (jnL
 (mkL (2 : Nat)
 (pickI [(1 : Int), (3 : Int)])
 (pickI [(2 : Int), (1 : Int)]))
 (mkL (2 : Nat)
 (pickI [(1 : Int), (2 : Int)])
 (pickI [(1 : Int), (5 : Int)])))))
 (mkL (3 : Nat)
 (pickI [(1 : Int), (2 : Int), (3 : Int)])
 (pickI [(2 : Int), (5 : Int), (1 : Int)])) &&
 sameL
 (mkL
 (meetL
 (mkL (2 : Nat)
 (pickI [(1 : Int), (3 : Int)])
 (pickI [(2 : Int), (1 : Int)]))
 (mkL (2 : Nat)
 (pickI [(1 : Int), (2 : Int)])
 (pickI [(1 : Int), (5 : Int)]))).length
 (agF
 (meetL
 (mkL (2 : Nat)
 (pickI [(1 : Int), (3 : Int)])
 (pickI [(2 : Int), (1 : Int)]))
 (mkL (2 : Nat)
 (pickI [(1 : Int), (2 : Int)])
 (pickI [(1 : Int), (5 : Int)]))))
 (ctF
 (meetL
 (mkL (2 : Nat)
 (pickI [(1 : Int), (3 : Int)])
 (pickI [(2 : Int), (1 : Int)]))
 (mkL (2 : Nat)
 (pickI [(1 : Int), (2 : Int)])
 (pickI [(1 : Int), (5 : Int)])))))
 (mkL (1 : Nat) (pickI [(1 : Int)])
 (pickI [(1 : Int)])) &&
 concL
 (mkL (2 : Nat) (pickI [(1 : Int), (3 : Int)])
 (pickI [(2 : Int), (1 : Int)]))
 (mkL (2 : Nat) (pickI [(1 : Int), (2 : Int)])
 (pickI [(1 : Int), (5 : Int)]))) =
 true →
 (nthC
 (stampsR
 (mkI (3 : Nat)
 (pickI [(1 : Int), (2 : Int), (1 : Int)]))
 (mkI (3 : Nat)
 (pickI
 [(-1 : Int), (0 : Int), (1 : Int)]))).fst
 (Int.toNat (0 : Int))).length =
 (nthC
 (stampsR
 (mkI (3 : Nat)
 (pickI [(1 : Int), (2 : Int), (1 : Int)]))
 (mkI (3 : Nat)
 (pickI
 [(-1 : Int), (0 : Int), (1 : Int)]))).fst
 (Int.toNat (0 : Int))).length) ∧
 ((sameL
 (mkL
 (jnL
 (mkL (2 : Nat)
 (pickI [(1 : Int), (3 : Int)])
 (pickI [(2 : Int), (1 : Int)]))
 (mkL (2 : Nat)
 (pickI [(1 : Int), (2 : Int)])
 (pickI
 [(1 : Int), (5 : Int)]))).length
 (agF
 (jnL
 (mkL (2 : Nat)
 (pickI [(1 : Int), (3 : Int)])
 (pickI [(2 : Int), (1 : Int)]))
 (mkL (2 : Nat)
 (pickI [(1 : Int), (2 : Int)])
 (pickI [(1 : Int), (5 : Int)]))))
 (ctF
 (jnL
 (mkL (2 : Nat)
 (pickI [(1 : Int), (3 : Int)])
 (pickI [(2 : Int), (1 : Int)]))
 (mkL (2 : Nat)
 (pickI [(1 : Int), (2 : Int)])
 (pickI [(1 : Int), (5 : Int)])))))
 (mkL (3 : Nat)
 (pickI [(1 : Int), (2 : Int), (3 : Int)])
 (pickI
 [(2 : Int), (5 : Int), (1 : Int)])) &&
 sameL
 (mkL
 (meetL
 (mkL (2 : Nat)
 (pickI [(1 : Int), (3 : Int)])
 (pickI [(2 : Int), (1 : Int)]))
 (mkL (2 : Nat)
 (pickI [(1 : Int), (2 : Int)])
 (pickI
 [(1 : Int), (5 : Int)]))).length
 (agF
 (meetL
 (mkL (2 : Nat)
 (pickI [(1 : Int), (3 : Int)])
 (pickI [(2 : Int), (1 : Int)]))
 (mkL (2 : Nat)
 (pickI [(1 : Int), (2 : Int)])
 (pickI [(1 : Int), (5 : Int)]))))
 (ctF
 (meetL
 (mkL (2 : Nat)
 (pickI [(1 : Int), (3 : Int)])
 (pickI [(2 : Int), (1 : Int)]))
 (mkL (2 : Nat)
 (pickI [(1 : Int), (2 : Int)])
 (pickI [(1 : Int), (5 : Int)])))))
 (mkL (1 : Nat) (pickI [(1 : Int)])
 (pickI [(1 : Int)])) &&
 concL
 (mkL (2 : Nat) (pickI [(1 : Int), (3 : Int)])
 (pickI [(2 : Int), (1 : Int)]))
 (mkL (2 : Nat) (pickI [(1 : Int), (2 : Int)])
 (pickI [(1 : Int), (5 : Int)]))) =
 true →
 (nthC
 (stampsR
 (mkI (3 : Nat)
 (pickI [(1 : Int), (2 : Int), (1 : Int)]))
 (mkI (3 : Nat)
 (pickI
 [(-1 : Int), (0 : Int),
 (1 : Int)]))).fst
 (Int.toNat (1 : Int))).length =
 (nthC
 (stampsR
 (mkI (3 : Nat)
 (pickI [(1 : Int), (2 : Int), (1 : Int)]))
 (mkI (3 : Nat)
 (pickI
 [(-1 : Int), (0 : Int),
 (1 : Int)]))).fst
 (Int.toNat (1 : Int))).length) ∧
 ((sameL
 (mkL
 (jnL
 (mkL (2 : Nat)
 (pickI [(1 : Int), (3 : Int)])
 (pickI [(2 : Int), (1 : Int)]))
 (mkL (2 : Nat)
 (pickI [(1 : Int), (2 : Int)])
 (pickI
 [(1 : Int), (5 : Int)]))).length
 (agF
 (jnL
 (mkL (2 : Nat)
 (pickI [(1 : Int), (3 : Int)])
 (pickI [(2 : Int), (1 : Int)]))
 (mkL (2 : Nat)
 (pickI [(1 : Int), (2 : Int)])
 (pickI [(1 : Int), (5 : Int)]))))
 (ctF
 (jnL
 (mkL (2 : Nat)
 (pickI [(1 : Int), (3 : Int)])
 (pickI [(2 : Int), (1 : Int)]))
 (mkL (2 : Nat)
 (pickI [(1 : Int), (2 : Int)])
 (pickI [(1 : Int), (5 : Int)])))))
 (mkL (3 : Nat)
 (pickI [(1 : Int), (2 : Int), (3 : Int)])
 (pickI
 [(2 : Int), (5 : Int), (1 : Int)])) &&
 sameL
 (mkL
 (meetL
 (mkL (2 : Nat)
 (pickI [(1 : Int), (3 : Int)])
 (pickI [(2 : Int), (1 : Int)]))
 (mkL (2 : Nat)
 (pickI [(1 : Int), (2 : Int)])
 (pickI
 [(1 : Int), (5 : Int)]))).length
 (agF
 (meetL
 (mkL (2 : Nat)
 (pickI [(1 : Int), (3 : Int)])
 (pickI [(2 : Int), (1 : Int)]))
 (mkL (2 : Nat)
 (pickI [(1 : Int), (2 : Int)])
 (pickI [(1 : Int), (5 : Int)]))))
 (ctF
 (meetL
 (mkL (2 : Nat)
 (pickI [(1 : Int), (3 : Int)])
 (pickI [(2 : Int), (1 : Int)]))
 (mkL (2 : Nat)
 (pickI [(1 : Int), (2 : Int)])
 (pickI [(1 : Int), (5 : Int)])))))
 (mkL (1 : Nat) (pickI [(1 : Int)])
 (pickI [(1 : Int)])) &&
 concL
 (mkL (2 : Nat) (pickI [(1 : Int), (3 : Int)])
 (pickI [(2 : Int), (1 : Int)]))
 (mkL (2 : Nat) (pickI [(1 : Int), (2 : Int)])
 (pickI [(1 : Int), (5 : Int)]))) =
 true →
 (mkL
 (nthC
 (stampsR
 (mkI (3 : Nat)
 (pickI
 [(1 : Int), (2 : Int),
 (1 : Int)]))
 (mkI (3 : Nat)
 (pickI
 [(-1 : Int), (0 : Int),
 (1 : Int)]))).fst
 (Int.toNat (0 : Int))).length
 (agF
 (nthC
 (stampsR
 (mkI (3 : Nat)
 (pickI
 [(1 : Int), (2 : Int),
 (1 : Int)]))
 (mkI (3 : Nat)
 (pickI
 [(-1 : Int), (0 : Int),
 (1 : Int)]))).fst
 (Int.toNat (0 : Int))))
 (ctF
 (nthC
 (stampsR
 (mkI (3 : Nat)
 (pickI
 [(1 : Int), (2 : Int),
 (1 : Int)]))
 (mkI (3 : Nat)
 (pickI
 [(-1 : Int), (0 : Int),
 (1 : Int)]))).fst
 (Int.toNat (0 : Int))))).length ≤
 (1099511627776 : Nat) ∧
 (mkL
 (nthC
 (stampsR
 (mkI (3 : Nat)
 (pickI
 [(1 : Int), (2 : Int),
 (1 : Int)]))
 (mkI (3 : Nat)
 (pickI
 [(-1 : Int), (0 : Int),
 (1 : Int)]))).fst
 (Int.toNat (1 : Int))).length
 (agF
 (nthC
 (stampsR
 (mkI (3 : Nat)
 (pickI
 [(1 : Int), (2 : Int),
 (1 : Int)]))
 (mkI (3 : Nat)
 (pickI
 [(-1 : Int), (0 : Int),
 (1 : Int)]))).fst
 (Int.toNat (1 : Int))))
 (ctF
 (nthC
 (stampsR
 (mkI (3 : Nat)
 (pickI
 [(1 : Int), (2 : Int),
 (1 : Int)]))
 (mkI (3 : Nat)
 (pickI
 [(-1 : Int), (0 : Int),
 (1 : Int)]))).fst
 (Int.toNat (1 : Int))))).length ≤
 (1099511627776 : Nat)) ∧
 ((sameL
 (mkL
 (jnL
 (mkL (2 : Nat)
 (pickI [(1 : Int), (3 : Int)])
 (pickI [(2 : Int), (1 : Int)]))
 (mkL (2 : Nat)
 (pickI [(1 : Int), (2 : Int)])
 (pickI
 [(1 : Int),
 (5 : Int)]))).length
 (agF
 (jnL
 (mkL (2 : Nat)
 (pickI [(1 : Int), (3 : Int)])
 (pickI [(2 : Int), (1 : Int)]))
 (mkL (2 : Nat)
 (pickI [(1 : Int), (2 : Int)])
 (pickI
 [(1 : Int), (5 : Int)]))))
 (ctF
 (jnL
 (mkL (2 : Nat)
 (pickI [(1 : Int), (3 : Int)])
 (pickI [(2 : Int), (1 : Int)]))
 (mkL (2 : Nat)
 (pickI [(1 : Int), (2 : Int)])
 (pickI
 [(1 : Int), (5 : Int)])))))
 (mkL (3 : Nat)
 (pickI
 [(1 : Int), (2 : Int), (3 : Int)])
 (pickI
 [(2 : Int), (5 : Int),
 (1 : Int)])) &&
 sameL
 (mkL
 (meetL
 (mkL (2 : Nat)
 (pickI [(1 : Int), (3 : Int)])
 (pickI [(2 : Int), (1 : Int)]))
 (mkL (2 : Nat)
 (pickI [(1 : Int), (2 : Int)])
 (pickI
 [(1 : Int),
 (5 : Int)]))).length
 (agF
 (meetL
 (mkL (2 : Nat)
 (pickI [(1 : Int), (3 : Int)])
 (pickI [(2 : Int), (1 : Int)]))
 (mkL (2 : Nat)
 (pickI [(1 : Int), (2 : Int)])
 (pickI
 [(1 : Int), (5 : Int)]))))
 (ctF
 (meetL
 (mkL (2 : Nat)
 (pickI [(1 : Int), (3 : Int)])
 (pickI [(2 : Int), (1 : Int)]))
 (mkL (2 : Nat)
 (pickI [(1 : Int), (2 : Int)])
 (pickI
 [(1 : Int), (5 : Int)])))))
 (mkL (1 : Nat) (pickI [(1 : Int)])
 (pickI [(1 : Int)])) &&
 concL
 (mkL (2 : Nat)
 (pickI [(1 : Int), (3 : Int)])
 (pickI [(2 : Int), (1 : Int)]))
 (mkL (2 : Nat)
 (pickI [(1 : Int), (2 : Int)])
 (pickI [(1 : Int), (5 : Int)])) &&
 lessL
 (mkL
 (nthC
 (stampsR
 (mkI (3 : Nat)
 (pickI
 [(1 : Int), (2 : Int),
 (1 : Int)]))
 (mkI (3 : Nat)
 (pickI
 [(-1 : Int), (0 : Int),
 (1 : Int)]))).fst
 (Int.toNat (0 : Int))).length
 (agF
 (nthC
 (stampsR
 (mkI (3 : Nat)
 (pickI
 [(1 : Int), (2 : Int),
 (1 : Int)]))
 (mkI (3 : Nat)
 (pickI
 [(-1 : Int), (0 : Int),
 (1 : Int)]))).fst
 (Int.toNat (0 : Int))))
 (ctF
 (nthC
 (stampsR
 (mkI (3 : Nat)
 (pickI
 [(1 : Int), (2 : Int),
 (1 : Int)]))
 (mkI (3 : Nat)
 (pickI
 [(-1 : Int), (0 : Int),
 (1 : Int)]))).fst
 (Int.toNat (0 : Int)))))
 (mkL
 (nthC
 (stampsR
 (mkI (3 : Nat)
 (pickI
 [(1 : Int), (2 : Int),
 (1 : Int)]))
 (mkI (3 : Nat)
 (pickI
 [(-1 : Int), (0 : Int),
 (1 : Int)]))).fst
 (Int.toNat (1 : Int))).length
 (agF
 (nthC
 (stampsR
 (mkI (3 : Nat)
 (pickI
 [(1 : Int), (2 : Int),
 (1 : Int)]))
 (mkI (3 : Nat)
 (pickI
 [(-1 : Int), (0 : Int),
 (1 : Int)]))).fst
 (Int.toNat (1 : Int))))
 (ctF
 (nthC
 (stampsR
 (mkI (3 : Nat)
 (pickI
 [(1 : Int), (2 : Int),
 (1 : Int)]))
 (mkI (3 : Nat)
 (pickI
 [(-1 : Int), (0 : Int),
 (1 : Int)]))).fst
 (Int.toNat (1 : Int)))))) =
 true →
 (2 : Nat) = (2 : Nat)) ∧
 ((sameL
 (mkL
 (jnL
 (mkL (2 : Nat)
 (pickI [(1 : Int), (3 : Int)])
 (pickI
 [(2 : Int), (1 : Int)]))
 (mkL (2 : Nat)
 (pickI [(1 : Int), (2 : Int)])
 (pickI
 [(1 : Int),
 (5 : Int)]))).length
 (agF
 (jnL
 (mkL (2 : Nat)
 (pickI [(1 : Int), (3 : Int)])
 (pickI
 [(2 : Int), (1 : Int)]))
 (mkL (2 : Nat)
 (pickI [(1 : Int), (2 : Int)])
 (pickI
 [(1 : Int), (5 : Int)]))))
 (ctF
 (jnL
 (mkL (2 : Nat)
 (pickI [(1 : Int), (3 : Int)])
 (pickI
 [(2 : Int), (1 : Int)]))
 (mkL (2 : Nat)
 (pickI [(1 : Int), (2 : Int)])
 (pickI
 [(1 : Int), (5 : Int)])))))
 (mkL (3 : Nat)
 (pickI
 [(1 : Int), (2 : Int), (3 : Int)])
 (pickI
 [(2 : Int), (5 : Int),
 (1 : Int)])) &&
 sameL
 (mkL
 (meetL
 (mkL (2 : Nat)
 (pickI [(1 : Int), (3 : Int)])
 (pickI
 [(2 : Int), (1 : Int)]))
 (mkL (2 : Nat)
 (pickI [(1 : Int), (2 : Int)])
 (pickI
 [(1 : Int),
 (5 : Int)]))).length
 (agF
 (meetL
 (mkL (2 : Nat)
 (pickI [(1 : Int), (3 : Int)])
 (pickI
 [(2 : Int), (1 : Int)]))
 (mkL (2 : Nat)
 (pickI [(1 : Int), (2 : Int)])
 (pickI
 [(1 : Int), (5 : Int)]))))
 (ctF
 (meetL
 (mkL (2 : Nat)
 (pickI [(1 : Int), (3 : Int)])
 (pickI
 [(2 : Int), (1 : Int)]))
 (mkL (2 : Nat)
 (pickI [(1 : Int), (2 : Int)])
 (pickI
 [(1 : Int), (5 : Int)])))))
 (mkL (1 : Nat) (pickI [(1 : Int)])
 (pickI [(1 : Int)])) &&
 concL
 (mkL (2 : Nat)
 (pickI [(1 : Int), (3 : Int)])
 (pickI [(2 : Int), (1 : Int)]))
 (mkL (2 : Nat)
 (pickI [(1 : Int), (2 : Int)])
 (pickI [(1 : Int), (5 : Int)])) &&
 lessL
 (mkL
 (nthC
 (stampsR
 (mkI (3 : Nat)
 (pickI
 [(1 : Int), (2 : Int),
 (1 : Int)]))
 (mkI (3 : Nat)
 (pickI
 [(-1 : Int), (0 : Int),
 (1 : Int)]))).fst
 (Int.toNat (0 : Int))).length
 (agF
 (nthC
 (stampsR
 (mkI (3 : Nat)
 (pickI
 [(1 : Int), (2 : Int),
 (1 : Int)]))
 (mkI (3 : Nat)
 (pickI
 [(-1 : Int), (0 : Int),
 (1 : Int)]))).fst
 (Int.toNat (0 : Int))))
 (ctF
 (nthC
 (stampsR
 (mkI (3 : Nat)
 (pickI
 [(1 : Int), (2 : Int),
 (1 : Int)]))
 (mkI (3 : Nat)
 (pickI
 [(-1 : Int), (0 : Int),
 (1 : Int)]))).fst
 (Int.toNat (0 : Int)))))
 (mkL
 (nthC
 (stampsR
 (mkI (3 : Nat)
 (pickI
 [(1 : Int), (2 : Int),
 (1 : Int)]))
 (mkI (3 : Nat)
 (pickI
 [(-1 : Int), (0 : Int),
 (1 : Int)]))).fst
 (Int.toNat (1 : Int))).length
 (agF
 (nthC
 (stampsR
 (mkI (3 : Nat)
 (pickI
 [(1 : Int), (2 : Int),
 (1 : Int)]))
 (mkI (3 : Nat)
 (pickI
 [(-1 : Int), (0 : Int),
 (1 : Int)]))).fst
 (Int.toNat (1 : Int))))
 (ctF
 (nthC
 (stampsR
 (mkI (3 : Nat)
 (pickI
 [(1 : Int), (2 : Int),
 (1 : Int)]))
 (mkI (3 : Nat)
 (pickI
 [(-1 : Int), (0 : Int),
 (1 : Int)]))).fst
 (Int.toNat (1 : Int)))))) =
 true →
 (mkL (2 : Nat) (pickI [(1 : Int), (3 : Int)])
 (pickI [(2 : Int), (1 : Int)])).length ≤
 (1099511627776 : Nat)) ∧
 ((sameL
 (mkL
 (jnL
 (mkL (2 : Nat)
 (pickI
 [(1 : Int), (3 : Int)])
 (pickI
 [(2 : Int), (1 : Int)]))
 (mkL (2 : Nat)
 (pickI
 [(1 : Int), (2 : Int)])
 (pickI
 [(1 : Int),
 (5 : Int)]))).length
 (agF
 (jnL
 (mkL (2 : Nat)
 (pickI
 [(1 : Int), (3 : Int)])
 (pickI
 [(2 : Int), (1 : Int)]))
 (mkL (2 : Nat)
 (pickI
 [(1 : Int), (2 : Int)])
 (pickI
 [(1 : Int),
 (5 : Int)]))))
 (ctF
 (jnL
 (mkL (2 : Nat)
 (pickI
 [(1 : Int), (3 : Int)])
 (pickI
 [(2 : Int), (1 : Int)]))
 (mkL (2 : Nat)
 (pickI
 [(1 : Int), (2 : Int)])
 (pickI
 [(1 : Int),
 (5 : Int)])))))
 (mkL (3 : Nat)
 (pickI
 [(1 : Int), (2 : Int),
 (3 : Int)])
 (pickI
 [(2 : Int), (5 : Int),
 (1 : Int)])) &&
 sameL
 (mkL
 (meetL
 (mkL (2 : Nat)
 (pickI
 [(1 : Int), (3 : Int)])
 (pickI
 [(2 : Int), (1 : Int)]))
 (mkL (2 : Nat)
 (pickI
 [(1 : Int), (2 : Int)])
 (pickI
 [(1 : Int),
 (5 : Int)]))).length
 (agF
 (meetL
 (mkL (2 : Nat)
 (pickI
 [(1 : Int), (3 : Int)])
 (pickI
 [(2 : Int), (1 : Int)]))
 (mkL (2 : Nat)
 (pickI
 [(1 : Int), (2 : Int)])
 (pickI
 [(1 : Int),
 (5 : Int)]))))
 (ctF
 (meetL
 (mkL (2 : Nat)
 (pickI
 [(1 : Int), (3 : Int)])
 (pickI
 [(2 : Int), (1 : Int)]))
 (mkL (2 : Nat)
 (pickI
 [(1 : Int), (2 : Int)])
 (pickI
 [(1 : Int),
 (5 : Int)])))))
 (mkL (1 : Nat) (pickI [(1 : Int)])
 (pickI [(1 : Int)])) &&
 concL
 (mkL (2 : Nat)
 (pickI [(1 : Int), (3 : Int)])
 (pickI [(2 : Int), (1 : Int)]))
 (mkL (2 : Nat)
 (pickI [(1 : Int), (2 : Int)])
 (pickI [(1 : Int), (5 : Int)])) &&
 lessL
 (mkL
 (nthC
 (stampsR
 (mkI (3 : Nat)
 (pickI
 [(1 : Int), (2 : Int),
 (1 : Int)]))
 (mkI (3 : Nat)
 (pickI
 [(-1 : Int), (0 : Int),
 (1 : Int)]))).fst
 (Int.toNat (0 : Int))).length
 (agF
 (nthC
 (stampsR
 (mkI (3 : Nat)
 (pickI
 [(1 : Int), (2 : Int),
 (1 : Int)]))
 (mkI (3 : Nat)
 (pickI
 [(-1 : Int), (0 : Int),
 (1 : Int)]))).fst
 (Int.toNat (0 : Int))))
 (ctF
 (nthC
 (stampsR
 (mkI (3 : Nat)
 (pickI
 [(1 : Int), (2 : Int),
 (1 : Int)]))
 (mkI (3 : Nat)
 (pickI
 [(-1 : Int), (0 : Int),
 (1 : Int)]))).fst
 (Int.toNat (0 : Int)))))
 (mkL
 (nthC
 (stampsR
 (mkI (3 : Nat)
 (pickI
 [(1 : Int), (2 : Int),
 (1 : Int)]))
 (mkI (3 : Nat)
 (pickI
 [(-1 : Int), (0 : Int),
 (1 : Int)]))).fst
 (Int.toNat (1 : Int))).length
 (agF
 (nthC
 (stampsR
 (mkI (3 : Nat)
 (pickI
 [(1 : Int), (2 : Int),
 (1 : Int)]))
 (mkI (3 : Nat)
 (pickI
 [(-1 : Int), (0 : Int),
 (1 : Int)]))).fst
 (Int.toNat (1 : Int))))
 (ctF
 (nthC
 (stampsR
 (mkI (3 : Nat)
 (pickI
 [(1 : Int), (2 : Int),
 (1 : Int)]))
 (mkI (3 : Nat)
 (pickI
 [(-1 : Int), (0 : Int),
 (1 : Int)]))).fst
 (Int.toNat (1 : Int))))) &&
 validL
 (mkL (2 : Nat)
 (pickI [(1 : Int), (3 : Int)])
 (pickI [(2 : Int), (1 : Int)]))) =
 true →
 (2 : Nat) = (2 : Nat)) ∧
 ((sameL
 (mkL
 (jnL
 (mkL (2 : Nat)
 (pickI
 [(1 : Int),
 (3 : Int)])
 (pickI
 [(2 : Int),
 (1 : Int)]))
 (mkL (2 : Nat)
 (pickI
 [(1 : Int),
 (2 : Int)])
 (pickI
 [(1 : Int),
 (5 : Int)]))).length
 (agF
 (jnL
 (mkL (2 : Nat)
 (pickI
 [(1 : Int),
 (3 : Int)])
 (pickI
 [(2 : Int),
 (1 : Int)]))
 (mkL (2 : Nat)
 (pickI
 [(1 : Int),
 (2 : Int)])
 (pickI
 [(1 : Int),
 (5 : Int)]))))
 (ctF
 (jnL
 (mkL (2 : Nat)
 (pickI
 [(1 : Int),
 (3 : Int)])
 (pickI
 [(2 : Int),
 (1 : Int)]))
 (mkL (2 : Nat)
 (pickI
 [(1 : Int),
 (2 : Int)])
 (pickI
 [(1 : Int),
 (5 : Int)])))))
 (mkL (3 : Nat)
 (pickI
 [(1 : Int), (2 : Int),
 (3 : Int)])
 (pickI
 [(2 : Int), (5 : Int),
 (1 : Int)])) &&
 sameL
 (mkL
 (meetL
 (mkL (2 : Nat)
 (pickI
 [(1 : Int),
 (3 : Int)])
 (pickI
 [(2 : Int),
 (1 : Int)]))
 (mkL (2 : Nat)
 (pickI
 [(1 : Int),
 (2 : Int)])
 (pickI
 [(1 : Int),
 (5 : Int)]))).length
 (agF
 (meetL
 (mkL (2 : Nat)
 (pickI
 [(1 : Int),
 (3 : Int)])
 (pickI
 [(2 : Int),
 (1 : Int)]))
 (mkL (2 : Nat)
 (pickI
 [(1 : Int),
 (2 : Int)])
 (pickI
 [(1 : Int),
 (5 : Int)]))))
 (ctF
 (meetL
 (mkL (2 : Nat)
 (pickI
 [(1 : Int),
 (3 : Int)])
 (pickI
 [(2 : Int),
 (1 : Int)]))
 (mkL (2 : Nat)
 (pickI
 [(1 : Int),
 (2 : Int)])
 (pickI
 [(1 : Int),
 (5 : Int)])))))
 (mkL (1 : Nat)
 (pickI [(1 : Int)])
 (pickI [(1 : Int)])) &&
 concL
 (mkL (2 : Nat)
 (pickI [(1 : Int), (3 : Int)])
 (pickI [(2 : Int), (1 : Int)]))
 (mkL (2 : Nat)
 (pickI [(1 : Int), (2 : Int)])
 (pickI
 [(1 : Int), (5 : Int)])) &&
 lessL
 (mkL
 (nthC
 (stampsR
 (mkI (3 : Nat)
 (pickI
 [(1 : Int), (2 : Int),
 (1 : Int)]))
 (mkI (3 : Nat)
 (pickI
 [(-1 : Int),
 (0 : Int),
 (1 : Int)]))).fst
 (Int.toNat (0 : Int))).length
 (agF
 (nthC
 (stampsR
 (mkI (3 : Nat)
 (pickI
 [(1 : Int), (2 : Int),
 (1 : Int)]))
 (mkI (3 : Nat)
 (pickI
 [(-1 : Int),
 (0 : Int),
 (1 : Int)]))).fst
 (Int.toNat (0 : Int))))
 (ctF
 (nthC
 (stampsR
 (mkI (3 : Nat)
 (pickI
 [(1 : Int), (2 : Int),
 (1 : Int)]))
 (mkI (3 : Nat)
 (pickI
 [(-1 : Int),
 (0 : Int),
 (1 : Int)]))).fst
 (Int.toNat (0 : Int)))))
 (mkL
 (nthC
 (stampsR
 (mkI (3 : Nat)
 (pickI
 [(1 : Int), (2 : Int),
 (1 : Int)]))
 (mkI (3 : Nat)
 (pickI
 [(-1 : Int),
 (0 : Int),
 (1 : Int)]))).fst
 (Int.toNat (1 : Int))).length
 (agF
 (nthC
 (stampsR
 (mkI (3 : Nat)
 (pickI
 [(1 : Int), (2 : Int),
 (1 : Int)]))
 (mkI (3 : Nat)
 (pickI
 [(-1 : Int),
 (0 : Int),
 (1 : Int)]))).fst
 (Int.toNat (1 : Int))))
 (ctF
 (nthC
 (stampsR
 (mkI (3 : Nat)
 (pickI
 [(1 : Int), (2 : Int),
 (1 : Int)]))
 (mkI (3 : Nat)
 (pickI
 [(-1 : Int),
 (0 : Int),
 (1 : Int)]))).fst
 (Int.toNat (1 : Int))))) &&
 validL
 (mkL (2 : Nat)
 (pickI [(1 : Int), (3 : Int)])
 (pickI [(2 : Int), (1 : Int)]))) =
 true →
 (mkL (2 : Nat)
 (pickI [(1 : Int), (2 : Int)])
 (pickI
 [(1 : Int), (5 : Int)])).length ≤
 (1099511627776 : Nat)) ∧
 ((sameL
 (mkL
 (jnL
 (mkL (2 : Nat)
 (pickI
 [(1 : Int),
 (3 : Int)])
 (pickI
 [(2 : Int),
 (1 : Int)]))
 (mkL (2 : Nat)
 (pickI
 [(1 : Int),
 (2 : Int)])
 (pickI
 [(1 : Int),
 (5 :
 Int)]))).length
 (agF
 (jnL
 (mkL (2 : Nat)
 (pickI
 [(1 : Int),
 (3 : Int)])
 (pickI
 [(2 : Int),
 (1 : Int)]))
 (mkL (2 : Nat)
 (pickI
 [(1 : Int),
 (2 : Int)])
 (pickI
 [(1 : Int),
 (5 : Int)]))))
 (ctF
 (jnL
 (mkL (2 : Nat)
 (pickI
 [(1 : Int),
 (3 : Int)])
 (pickI
 [(2 : Int),
 (1 : Int)]))
 (mkL (2 : Nat)
 (pickI
 [(1 : Int),
 (2 : Int)])
 (pickI
 [(1 : Int),
 (5 : Int)])))))
 (mkL (3 : Nat)
 (pickI
 [(1 : Int), (2 : Int),
 (3 : Int)])
 (pickI
 [(2 : Int), (5 : Int),
 (1 : Int)])) &&
 sameL
 (mkL
 (meetL
 (mkL (2 : Nat)
 (pickI
 [(1 : Int),
 (3 : Int)])
 (pickI
 [(2 : Int),
 (1 : Int)]))
 (mkL (2 : Nat)
 (pickI
 [(1 : Int),
 (2 : Int)])
 (pickI
 [(1 : Int),
 (5 :
 Int)]))).length
 (agF
 (meetL
 (mkL (2 : Nat)
 (pickI
 [(1 : Int),
 (3 : Int)])
 (pickI
 [(2 : Int),
 (1 : Int)]))
 (mkL (2 : Nat)
 (pickI
 [(1 : Int),
 (2 : Int)])
 (pickI
 [(1 : Int),
 (5 : Int)]))))
 (ctF
 (meetL
 (mkL (2 : Nat)
 (pickI
 [(1 : Int),
 (3 : Int)])
 (pickI
 [(2 : Int),
 (1 : Int)]))
 (mkL (2 : Nat)
 (pickI
 [(1 : Int),
 (2 : Int)])
 (pickI
 [(1 : Int),
 (5 : Int)])))))
 (mkL (1 : Nat)
 (pickI [(1 : Int)])
 (pickI [(1 : Int)])) &&
 concL
 (mkL (2 : Nat)
 (pickI
 [(1 : Int), (3 : Int)])
 (pickI
 [(2 : Int), (1 : Int)]))
 (mkL (2 : Nat)
 (pickI
 [(1 : Int), (2 : Int)])
 (pickI
 [(1 : Int),
 (5 : Int)])) &&
 lessL
 (mkL
 (nthC
 (stampsR
 (mkI (3 : Nat)
 (pickI
 [(1 : Int),
 (2 : Int),
 (1 : Int)]))
 (mkI (3 : Nat)
 (pickI
 [(-1 : Int),
 (0 : Int),
 (1 :
 Int)]))).fst
 (Int.toNat
 (0 : Int))).length
 (agF
 (nthC
 (stampsR
 (mkI (3 : Nat)
 (pickI
 [(1 : Int),
 (2 : Int),
 (1 : Int)]))
 (mkI (3 : Nat)
 (pickI
 [(-1 : Int),
 (0 : Int),
 (1 :
 Int)]))).fst
 (Int.toNat (0 : Int))))
 (ctF
 (nthC
 (stampsR
 (mkI (3 : Nat)
 (pickI
 [(1 : Int),
 (2 : Int),
 (1 : Int)]))
 (mkI (3 : Nat)
 (pickI
 [(-1 : Int),
 (0 : Int),
 (1 :
 Int)]))).fst
 (Int.toNat (0 : Int)))))
 (mkL
 (nthC
 (stampsR
 (mkI (3 : Nat)
 (pickI
 [(1 : Int),
 (2 : Int),
 (1 : Int)]))
 (mkI (3 : Nat)
 (pickI
 [(-1 : Int),
 (0 : Int),
 (1 :
 Int)]))).fst
 (Int.toNat
 (1 : Int))).length
 (agF
 (nthC
 (stampsR
 (mkI (3 : Nat)
 (pickI
 [(1 : Int),
 (2 : Int),
 (1 : Int)]))
 (mkI (3 : Nat)
 (pickI
 [(-1 : Int),
 (0 : Int),
 (1 :
 Int)]))).fst
 (Int.toNat (1 : Int))))
 (ctF
 (nthC
 (stampsR
 (mkI (3 : Nat)
 (pickI
 [(1 : Int),
 (2 : Int),
 (1 : Int)]))
 (mkI (3 : Nat)
 (pickI
 [(-1 : Int),
 (0 : Int),
 (1 :
 Int)]))).fst
 (Int.toNat
 (1 : Int))))) &&
 validL
 (mkL (2 : Nat)
 (pickI [(1 : Int), (3 : Int)])
 (pickI
 [(2 : Int), (1 : Int)])) &&
 getL
 (mkL (2 : Nat)
 (pickI [(1 : Int), (2 : Int)])
 (pickI [(1 : Int), (5 : Int)]))
 (2 : Int) ==
 (5 : Int)) =
 true →
 (0 : Nat) = (0 : Nat)) ∧
 ((sameL
 (mkL
 (jnL
 (mkL (2 : Nat)
 (pickI
 [(1 : Int),
 (3 : Int)])
 (pickI
 [(2 : Int),
 (1 : Int)]))
 (mkL (2 : Nat)
 (pickI
 [(1 : Int),
 (2 : Int)])
 (pickI
 [(1 : Int),
 (5 :
 Int)]))).length
 (agF
 (jnL
 (mkL (2 : Nat)
 (pickI
 [(1 : Int),
 (3 : Int)])
 (pickI
 [(2 : Int),
 (1 : Int)]))
 (mkL (2 : Nat)
 (pickI
 [(1 : Int),
 (2 : Int)])
 (pickI
 [(1 : Int),
 (5 : Int)]))))
 (ctF
 (jnL
 (mkL (2 : Nat)
 (pickI
 [(1 : Int),
 (3 : Int)])
 (pickI
 [(2 : Int),
 (1 : Int)]))
 (mkL (2 : Nat)
 (pickI
 [(1 : Int),
 (2 : Int)])
 (pickI
 [(1 : Int),
 (5 :
 Int)])))))
 (mkL (3 : Nat)
 (pickI
 [(1 : Int), (2 : Int),
 (3 : Int)])
 (pickI
 [(2 : Int), (5 : Int),
 (1 : Int)])) &&
 sameL
 (mkL
 (meetL
 (mkL (2 : Nat)
 (pickI
 [(1 : Int),
 (3 : Int)])
 (pickI
 [(2 : Int),
 (1 : Int)]))
 (mkL (2 : Nat)
 (pickI
 [(1 : Int),
 (2 : Int)])
 (pickI
 [(1 : Int),
 (5 :
 Int)]))).length
 (agF
 (meetL
 (mkL (2 : Nat)
 (pickI
 [(1 : Int),
 (3 : Int)])
 (pickI
 [(2 : Int),
 (1 : Int)]))
 (mkL (2 : Nat)
 (pickI
 [(1 : Int),
 (2 : Int)])
 (pickI
 [(1 : Int),
 (5 : Int)]))))
 (ctF
 (meetL
 (mkL (2 : Nat)
 (pickI
 [(1 : Int),
 (3 : Int)])
 (pickI
 [(2 : Int),
 (1 : Int)]))
 (mkL (2 : Nat)
 (pickI
 [(1 : Int),
 (2 : Int)])
 (pickI
 [(1 : Int),
 (5 :
 Int)])))))
 (mkL (1 : Nat)
 (pickI [(1 : Int)])
 (pickI [(1 : Int)])) &&
 concL
 (mkL (2 : Nat)
 (pickI
 [(1 : Int), (3 : Int)])
 (pickI
 [(2 : Int), (1 : Int)]))
 (mkL (2 : Nat)
 (pickI
 [(1 : Int), (2 : Int)])
 (pickI
 [(1 : Int),
 (5 : Int)])) &&
 lessL
 (mkL
 (nthC
 (stampsR
 (mkI (3 : Nat)
 (pickI
 [(1 : Int),
 (2 : Int),
 (1 : Int)]))
 (mkI (3 : Nat)
 (pickI
 [(-1 : Int),
 (0 : Int),
 (1 :
 Int)]))).fst
 (Int.toNat
 (0 : Int))).length
 (agF
 (nthC
 (stampsR
 (mkI (3 : Nat)
 (pickI
 [(1 : Int),
 (2 : Int),
 (1 : Int)]))
 (mkI (3 : Nat)
 (pickI
 [(-1 : Int),
 (0 : Int),
 (1 :
 Int)]))).fst
 (Int.toNat (0 : Int))))
 (ctF
 (nthC
 (stampsR
 (mkI (3 : Nat)
 (pickI
 [(1 : Int),
 (2 : Int),
 (1 : Int)]))
 (mkI (3 : Nat)
 (pickI
 [(-1 : Int),
 (0 : Int),
 (1 :
 Int)]))).fst
 (Int.toNat (0 : Int)))))
 (mkL
 (nthC
 (stampsR
 (mkI (3 : Nat)
 (pickI
 [(1 : Int),
 (2 : Int),
 (1 : Int)]))
 (mkI (3 : Nat)
 (pickI
 [(-1 : Int),
 (0 : Int),
 (1 :
 Int)]))).fst
 (Int.toNat
 (1 : Int))).length
 (agF
 (nthC
 (stampsR
 (mkI (3 : Nat)
 (pickI
 [(1 : Int),
 (2 : Int),
 (1 : Int)]))
 (mkI (3 : Nat)
 (pickI
 [(-1 : Int),
 (0 : Int),
 (1 :
 Int)]))).fst
 (Int.toNat (1 : Int))))
 (ctF
 (nthC
 (stampsR
 (mkI (3 : Nat)
 (pickI
 [(1 : Int),
 (2 : Int),
 (1 : Int)]))
 (mkI (3 : Nat)
 (pickI
 [(-1 : Int),
 (0 : Int),
 (1 :
 Int)]))).fst
 (Int.toNat
 (1 : Int))))) &&
 validL
 (mkL (2 : Nat)
 (pickI [(1 : Int), (3 : Int)])
 (pickI
 [(2 : Int), (1 : Int)])) &&
 getL
 (mkL (2 : Nat)
 (pickI [(1 : Int), (2 : Int)])
 (pickI
 [(1 : Int), (5 : Int)]))
 (2 : Int) ==
 (5 : Int)) =
 true →
 ([] : List Tk).length ≤ (1099511627776 : Nat)) ∧
 ((sameL
 (mkL
 (jnL
 (mkL (2 : Nat)
 (pickI
 [(1 : Int),
 (3 : Int)])
 (pickI
 [(2 : Int),
 (1 : Int)]))
 (mkL (2 : Nat)
 (pickI
 [(1 : Int),
 (2 : Int)])
 (pickI
 [(1 : Int),
 (5 :
 Int)]))).length
 (agF
 (jnL
 (mkL (2 : Nat)
 (pickI
 [(1 : Int),
 (3 : Int)])
 (pickI
 [(2 : Int),
 (1 : Int)]))
 (mkL (2 : Nat)
 (pickI
 [(1 : Int),
 (2 : Int)])
 (pickI
 [(1 : Int),
 (5 :
 Int)]))))
 (ctF
 (jnL
 (mkL (2 : Nat)
 (pickI
 [(1 : Int),
 (3 : Int)])
 (pickI
 [(2 : Int),
 (1 : Int)]))
 (mkL (2 : Nat)
 (pickI
 [(1 : Int),
 (2 : Int)])
 (pickI
 [(1 : Int),
 (5 :
 Int)])))))
 (mkL (3 : Nat)
 (pickI
 [(1 : Int),
 (2 : Int),
 (3 : Int)])
 (pickI
 [(2 : Int),
 (5 : Int),
 (1 : Int)])) &&
 sameL
 (mkL
 (meetL
 (mkL (2 : Nat)
 (pickI
 [(1 : Int),
 (3 : Int)])
 (pickI
 [(2 : Int),
 (1 : Int)]))
 (mkL (2 : Nat)
 (pickI
 [(1 : Int),
 (2 : Int)])
 (pickI
 [(1 : Int),
 (5 :
 Int)]))).length
 (agF
 (meetL
 (mkL (2 : Nat)
 (pickI
 [(1 : Int),
 (3 : Int)])
 (pickI
 [(2 : Int),
 (1 : Int)]))
 (mkL (2 : Nat)
 (pickI
 [(1 : Int),
 (2 : Int)])
 (pickI
 [(1 : Int),
 (5 :
 Int)]))))
 (ctF
 (meetL
 (mkL (2 : Nat)
 (pickI
 [(1 : Int),
 (3 : Int)])
 (pickI
 [(2 : Int),
 (1 : Int)]))
 (mkL (2 : Nat)
 (pickI
 [(1 : Int),
 (2 : Int)])
 (pickI
 [(1 : Int),
 (5 :
 Int)])))))
 (mkL (1 : Nat)
 (pickI [(1 : Int)])
 (pickI
 [(1 : Int)])) &&
 concL
 (mkL (2 : Nat)
 (pickI
 [(1 : Int),
 (3 : Int)])
 (pickI
 [(2 : Int),
 (1 : Int)]))
 (mkL (2 : Nat)
 (pickI
 [(1 : Int),
 (2 : Int)])
 (pickI
 [(1 : Int),
 (5 : Int)])) &&
 lessL
 (mkL
 (nthC
 (stampsR
 (mkI (3 : Nat)
 (pickI
 [(1 : Int),
 (2 : Int),
 (1 : Int)]))
 (mkI (3 : Nat)
 (pickI
 [(-1 : Int),
 (0 : Int),
 (1 :
 Int)]))).fst
 (Int.toNat
 (0 : Int))).length
 (agF
 (nthC
 (stampsR
 (mkI (3 : Nat)
 (pickI
 [(1 : Int),
 (2 : Int),
 (1 : Int)]))
 (mkI (3 : Nat)
 (pickI
 [(-1 : Int),
 (0 : Int),
 (1 :
 Int)]))).fst
 (Int.toNat
 (0 : Int))))
 (ctF
 (nthC
 (stampsR
 (mkI (3 : Nat)
 (pickI
 [(1 : Int),
 (2 : Int),
 (1 : Int)]))
 (mkI (3 : Nat)
 (pickI
 [(-1 : Int),
 (0 : Int),
 (1 :
 Int)]))).fst
 (Int.toNat
 (0 : Int)))))
 (mkL
 (nthC
 (stampsR
 (mkI (3 : Nat)
 (pickI
 [(1 : Int),
 (2 : Int),
 (1 : Int)]))
 (mkI (3 : Nat)
 (pickI
 [(-1 : Int),
 (0 : Int),
 (1 :
 Int)]))).fst
 (Int.toNat
 (1 : Int))).length
 (agF
 (nthC
 (stampsR
 (mkI (3 : Nat)
 (pickI
 [(1 : Int),
 (2 : Int),
 (1 : Int)]))
 (mkI (3 : Nat)
 (pickI
 [(-1 : Int),
 (0 : Int),
 (1 :
 Int)]))).fst
 (Int.toNat
 (1 : Int))))
 (ctF
 (nthC
 (stampsR
 (mkI (3 : Nat)
 (pickI
 [(1 : Int),
 (2 : Int),
 (1 : Int)]))
 (mkI (3 : Nat)
 (pickI
 [(-1 : Int),
 (0 : Int),
 (1 :
 Int)]))).fst
 (Int.toNat
 (1 : Int))))) &&
 validL
 (mkL (2 : Nat)
 (pickI
 [(1 : Int), (3 : Int)])
 (pickI
 [(2 : Int),
 (1 : Int)])) &&
 getL
 (mkL (2 : Nat)
 (pickI
 [(1 : Int), (2 : Int)])
 (pickI
 [(1 : Int), (5 : Int)]))
 (2 : Int) ==
 (5 : Int)) =
 true →
 (advanceL [] (-1 : Int)).length =
 (advanceL [] (-1 : Int)).length) ∧
 ((sameL
 (mkL
 (jnL
 (mkL (2 : Nat)
 (pickI
 [(1 : Int),
 (3 :
 Int)])
 (pickI
 [(2 : Int),
 (1 :
 Int)]))
 (mkL (2 : Nat)
 (pickI
 [(1 : Int),
 (2 :
 Int)])
 (pickI
 [(1 : Int),
 (5 :
 Int)]))).length
 (agF
 (jnL
 (mkL (2 : Nat)
 (pickI
 [(1 : Int),
 (3 :
 Int)])
 (pickI
 [(2 : Int),
 (1 :
 Int)]))
 (mkL (2 : Nat)
 (pickI
 [(1 : Int),
 (2 :
 Int)])
 (pickI
 [(1 : Int),
 (5 :
 Int)]))))
 (ctF
 (jnL
 (mkL (2 : Nat)
 (pickI
 [(1 : Int),
 (3 :
 Int)])
 (pickI
 [(2 : Int),
 (1 :
 Int)]))
 (mkL (2 : Nat)
 (pickI
 [(1 : Int),
 (2 :
 Int)])
 (pickI
 [(1 : Int),
 (5 :
 Int)])))))
 (mkL (3 : Nat)
 (pickI
 [(1 : Int),
 (2 : Int),
 (3 : Int)])
 (pickI
 [(2 : Int),
 (5 : Int),
 (1 : Int)])) &&
 sameL
 (mkL
 (meetL
 (mkL (2 : Nat)
 (pickI
 [(1 : Int),
 (3 :
 Int)])
 (pickI
 [(2 : Int),
 (1 :
 Int)]))
 (mkL (2 : Nat)
 (pickI
 [(1 : Int),
 (2 :
 Int)])
 (pickI
 [(1 : Int),
 (5 :
 Int)]))).length
 (agF
 (meetL
 (mkL (2 : Nat)
 (pickI
 [(1 : Int),
 (3 :
 Int)])
 (pickI
 [(2 : Int),
 (1 :
 Int)]))
 (mkL (2 : Nat)
 (pickI
 [(1 : Int),
 (2 :
 Int)])
 (pickI
 [(1 : Int),
 (5 :
 Int)]))))
 (ctF
 (meetL
 (mkL (2 : Nat)
 (pickI
 [(1 : Int),
 (3 :
 Int)])
 (pickI
 [(2 : Int),
 (1 :
 Int)]))
 (mkL (2 : Nat)
 (pickI
 [(1 : Int),
 (2 :
 Int)])
 (pickI
 [(1 : Int),
 (5 :
 Int)])))))
 (mkL (1 : Nat)
 (pickI [(1 : Int)])
 (pickI
 [(1 : Int)])) &&
 concL
 (mkL (2 : Nat)
 (pickI
 [(1 : Int),
 (3 : Int)])
 (pickI
 [(2 : Int),
 (1 : Int)]))
 (mkL (2 : Nat)
 (pickI
 [(1 : Int),
 (2 : Int)])
 (pickI
 [(1 : Int),
 (5 : Int)])) &&
 lessL
 (mkL
 (nthC
 (stampsR
 (mkI (3 : Nat)
 (pickI
 [(1 : Int),
 (2 : Int),
 (1 :
 Int)]))
 (mkI (3 : Nat)
 (pickI
 [(-1 : Int),
 (0 : Int),
 (1 :
 Int)]))).fst
 (Int.toNat
 (0 : Int))).length
 (agF
 (nthC
 (stampsR
 (mkI (3 : Nat)
 (pickI
 [(1 : Int),
 (2 : Int),
 (1 :
 Int)]))
 (mkI (3 : Nat)
 (pickI
 [(-1 : Int),
 (0 : Int),
 (1 :
 Int)]))).fst
 (Int.toNat
 (0 : Int))))
 (ctF
 (nthC
 (stampsR
 (mkI (3 : Nat)
 (pickI
 [(1 : Int),
 (2 : Int),
 (1 :
 Int)]))
 (mkI (3 : Nat)
 (pickI
 [(-1 : Int),
 (0 : Int),
 (1 :
 Int)]))).fst
 (Int.toNat
 (0 : Int)))))
 (mkL
 (nthC
 (stampsR
 (mkI (3 : Nat)
 (pickI
 [(1 : Int),
 (2 : Int),
 (1 :
 Int)]))
 (mkI (3 : Nat)
 (pickI
 [(-1 : Int),
 (0 : Int),
 (1 :
 Int)]))).fst
 (Int.toNat
 (1 : Int))).length
 (agF
 (nthC
 (stampsR
 (mkI (3 : Nat)
 (pickI
 [(1 : Int),
 (2 : Int),
 (1 :
 Int)]))
 (mkI (3 : Nat)
 (pickI
 [(-1 : Int),
 (0 : Int),
 (1 :
 Int)]))).fst
 (Int.toNat
 (1 : Int))))
 (ctF
 (nthC
 (stampsR
 (mkI (3 : Nat)
 (pickI
 [(1 : Int),
 (2 : Int),
 (1 :
 Int)]))
 (mkI (3 : Nat)
 (pickI
 [(-1 : Int),
 (0 : Int),
 (1 :
 Int)]))).fst
 (Int.toNat
 (1 : Int))))) &&
 validL
 (mkL (2 : Nat)
 (pickI
 [(1 : Int), (3 : Int)])
 (pickI
 [(2 : Int),
 (1 : Int)])) &&
 getL
 (mkL (2 : Nat)
 (pickI
 [(1 : Int), (2 : Int)])
 (pickI
 [(1 : Int), (5 : Int)]))
 (2 : Int) ==
 (5 : Int)) =
 true →
 (1 : Nat) = (1 : Nat)) ∧
 ((sameL
 (mkL
 (jnL
 (mkL (2 : Nat)
 (pickI
 [(1 :
 Int),
 (3 :
 Int)])
 (pickI
 [(2 :
 Int),
 (1 :
 Int)]))
 (mkL (2 : Nat)
 (pickI
 [(1 :
 Int),
 (2 :
 Int)])
 (pickI
 [(1 :
 Int),
 (5 :
 Int)]))).length
 (agF
 (jnL
 (mkL (2 : Nat)
 (pickI
 [(1 :
 Int),
 (3 :
 Int)])
 (pickI
 [(2 :
 Int),
 (1 :
 Int)]))
 (mkL (2 : Nat)
 (pickI
 [(1 :
 Int),
 (2 :
 Int)])
 (pickI
 [(1 :
 Int),
 (5 :
 Int)]))))
 (ctF
 (jnL
 (mkL (2 : Nat)
 (pickI
 [(1 :
 Int),
 (3 :
 Int)])
 (pickI
 [(2 :
 Int),
 (1 :
 Int)]))
 (mkL (2 : Nat)
 (pickI
 [(1 :
 Int),
 (2 :
 Int)])
 (pickI
 [(1 :
 Int),
 (5 :
 Int)])))))
 (mkL (3 : Nat)
 (pickI
 [(1 : Int),
 (2 : Int),
 (3 : Int)])
 (pickI
 [(2 : Int),
 (5 : Int),
 (1 :
 Int)])) &&
 sameL
 (mkL
 (meetL
 (mkL (2 : Nat)
 (pickI
 [(1 :
 Int),
 (3 :
 Int)])
 (pickI
 [(2 :
 Int),
 (1 :
 Int)]))
 (mkL (2 : Nat)
 (pickI
 [(1 :
 Int),
 (2 :
 Int)])
 (pickI
 [(1 :
 Int),
 (5 :
 Int)]))).length
 (agF
 (meetL
 (mkL (2 : Nat)
 (pickI
 [(1 :
 Int),
 (3 :
 Int)])
 (pickI
 [(2 :
 Int),
 (1 :
 Int)]))
 (mkL (2 : Nat)
 (pickI
 [(1 :
 Int),
 (2 :
 Int)])
 (pickI
 [(1 :
 Int),
 (5 :
 Int)]))))
 (ctF
 (meetL
 (mkL (2 : Nat)
 (pickI
 [(1 :
 Int),
 (3 :
 Int)])
 (pickI
 [(2 :
 Int),
 (1 :
 Int)]))
 (mkL (2 : Nat)
 (pickI
 [(1 :
 Int),
 (2 :
 Int)])
 (pickI
 [(1 :
 Int),
 (5 :
 Int)])))))
 (mkL (1 : Nat)
 (pickI
 [(1 : Int)])
 (pickI
 [(1 : Int)])) &&
 concL
 (mkL (2 : Nat)
 (pickI
 [(1 : Int),
 (3 : Int)])
 (pickI
 [(2 : Int),
 (1 : Int)]))
 (mkL (2 : Nat)
 (pickI
 [(1 : Int),
 (2 : Int)])
 (pickI
 [(1 : Int),
 (5 : Int)])) &&
 lessL
 (mkL
 (nthC
 (stampsR
 (mkI (3 : Nat)
 (pickI
 [(1 :
 Int),
 (2 :
 Int),
 (1 :
 Int)]))
 (mkI (3 : Nat)
 (pickI
 [(-1 :
 Int),
 (0 :
 Int),
 (1 :
 Int)]))).fst
 (Int.toNat
 (0 :
 Int))).length
 (agF
 (nthC
 (stampsR
 (mkI (3 : Nat)
 (pickI
 [(1 :
 Int),
 (2 :
 Int),
 (1 :
 Int)]))
 (mkI (3 : Nat)
 (pickI
 [(-1 :
 Int),
 (0 :
 Int),
 (1 :
 Int)]))).fst
 (Int.toNat
 (0 : Int))))
 (ctF
 (nthC
 (stampsR
 (mkI (3 : Nat)
 (pickI
 [(1 :
 Int),
 (2 :
 Int),
 (1 :
 Int)]))
 (mkI (3 : Nat)
 (pickI
 [(-1 :
 Int),
 (0 :
 Int),
 (1 :
 Int)]))).fst
 (Int.toNat
 (0 : Int)))))
 (mkL
 (nthC
 (stampsR
 (mkI (3 : Nat)
 (pickI
 [(1 :
 Int),
 (2 :
 Int),
 (1 :
 Int)]))
 (mkI (3 : Nat)
 (pickI
 [(-1 :
 Int),
 (0 :
 Int),
 (1 :
 Int)]))).fst
 (Int.toNat
 (1 :
 Int))).length
 (agF
 (nthC
 (stampsR
 (mkI (3 : Nat)
 (pickI
 [(1 :
 Int),
 (2 :
 Int),
 (1 :
 Int)]))
 (mkI (3 : Nat)
 (pickI
 [(-1 :
 Int),
 (0 :
 Int),
 (1 :
 Int)]))).fst
 (Int.toNat
 (1 : Int))))
 (ctF
 (nthC
 (stampsR
 (mkI (3 : Nat)
 (pickI
 [(1 :
 Int),
 (2 :
 Int),
 (1 :
 Int)]))
 (mkI (3 : Nat)
 (pickI
 [(-1 :
 Int),
 (0 :
 Int),
 (1 :
 Int)]))).fst
 (Int.toNat
 (1 : Int))))) &&
 validL
 (mkL (2 : Nat)
 (pickI
 [(1 : Int),
 (3 : Int)])
 (pickI
 [(2 : Int),
 (1 : Int)])) &&
 getL
 (mkL (2 : Nat)
 (pickI
 [(1 : Int),
 (2 : Int)])
 (pickI
 [(1 : Int),
 (5 : Int)]))
 (2 : Int) ==
 (5 : Int)) =
 true →
 (mkL
 (advanceL []
 (-1 : Int)).length
 (agF
 (advanceL [] (-1 : Int)))
 (ctF
 (advanceL []
 (-1 : Int)))).length ≤
 (1099511627776 : Nat)) ∧
 (sameL
 (mkL
 (jnL
 (mkL (2 : Nat)
 (pickI
 [(1 :
 Int),
 (3 :
 Int)])
 (pickI
 [(2 :
 Int),
 (1 :
 Int)]))
 (mkL (2 : Nat)
 (pickI
 [(1 :
 Int),
 (2 :
 Int)])
 (pickI
 [(1 :
 Int),
 (5 :
 Int)]))).length
 (agF
 (jnL
 (mkL (2 : Nat)
 (pickI
 [(1 :
 Int),
 (3 :
 Int)])
 (pickI
 [(2 :
 Int),
 (1 :
 Int)]))
 (mkL (2 : Nat)
 (pickI
 [(1 :
 Int),
 (2 :
 Int)])
 (pickI
 [(1 :
 Int),
 (5 :
 Int)]))))
 (ctF
 (jnL
 (mkL (2 : Nat)
 (pickI
 [(1 :
 Int),
 (3 :
 Int)])
 (pickI
 [(2 :
 Int),
 (1 :
 Int)]))
 (mkL (2 : Nat)
 (pickI
 [(1 :
 Int),
 (2 :
 Int)])
 (pickI
 [(1 :
 Int),
 (5 :
 Int)])))))
 (mkL (3 : Nat)
 (pickI
 [(1 : Int),
 (2 : Int),
 (3 : Int)])
 (pickI
 [(2 : Int),
 (5 : Int),
 (1 :
 Int)])) &&
 sameL
 (mkL
 (meetL
 (mkL (2 : Nat)
 (pickI
 [(1 :
 Int),
 (3 :
 Int)])
 (pickI
 [(2 :
 Int),
 (1 :
 Int)]))
 (mkL (2 : Nat)
 (pickI
 [(1 :
 Int),
 (2 :
 Int)])
 (pickI
 [(1 :
 Int),
 (5 :
 Int)]))).length
 (agF
 (meetL
 (mkL (2 : Nat)
 (pickI
 [(1 :
 Int),
 (3 :
 Int)])
 (pickI
 [(2 :
 Int),
 (1 :
 Int)]))
 (mkL (2 : Nat)
 (pickI
 [(1 :
 Int),
 (2 :
 Int)])
 (pickI
 [(1 :
 Int),
 (5 :
 Int)]))))
 (ctF
 (meetL
 (mkL (2 : Nat)
 (pickI
 [(1 :
 Int),
 (3 :
 Int)])
 (pickI
 [(2 :
 Int),
 (1 :
 Int)]))
 (mkL (2 : Nat)
 (pickI
 [(1 :
 Int),
 (2 :
 Int)])
 (pickI
 [(1 :
 Int),
 (5 :
 Int)])))))
 (mkL (1 : Nat)
 (pickI
 [(1 : Int)])
 (pickI
 [(1 : Int)])) &&
 concL
 (mkL (2 : Nat)
 (pickI
 [(1 : Int),
 (3 : Int)])
 (pickI
 [(2 : Int),
 (1 : Int)]))
 (mkL (2 : Nat)
 (pickI
 [(1 : Int),
 (2 : Int)])
 (pickI
 [(1 : Int),
 (5 : Int)])) &&
 lessL
 (mkL
 (nthC
 (stampsR
 (mkI (3 : Nat)
 (pickI
 [(1 :
 Int),
 (2 :
 Int),
 (1 :
 Int)]))
 (mkI (3 : Nat)
 (pickI
 [(-1 :
 Int),
 (0 :
 Int),
 (1 :
 Int)]))).fst
 (Int.toNat
 (0 :
 Int))).length
 (agF
 (nthC
 (stampsR
 (mkI (3 : Nat)
 (pickI
 [(1 :
 Int),
 (2 :
 Int),
 (1 :
 Int)]))
 (mkI (3 : Nat)
 (pickI
 [(-1 :
 Int),
 (0 :
 Int),
 (1 :
 Int)]))).fst
 (Int.toNat
 (0 : Int))))
 (ctF
 (nthC
 (stampsR
 (mkI (3 : Nat)
 (pickI
 [(1 :
 Int),
 (2 :
 Int),
 (1 :
 Int)]))
 (mkI (3 : Nat)
 (pickI
 [(-1 :
 Int),
 (0 :
 Int),
 (1 :
 Int)]))).fst
 (Int.toNat
 (0 : Int)))))
 (mkL
 (nthC
 (stampsR
 (mkI (3 : Nat)
 (pickI
 [(1 :
 Int),
 (2 :
 Int),
 (1 :
 Int)]))
 (mkI (3 : Nat)
 (pickI
 [(-1 :
 Int),
 (0 :
 Int),
 (1 :
 Int)]))).fst
 (Int.toNat
 (1 :
 Int))).length
 (agF
 (nthC
 (stampsR
 (mkI (3 : Nat)
 (pickI
 [(1 :
 Int),
 (2 :
 Int),
 (1 :
 Int)]))
 (mkI (3 : Nat)
 (pickI
 [(-1 :
 Int),
 (0 :
 Int),
 (1 :
 Int)]))).fst
 (Int.toNat
 (1 : Int))))
 (ctF
 (nthC
 (stampsR
 (mkI (3 : Nat)
 (pickI
 [(1 :
 Int),
 (2 :
 Int),
 (1 :
 Int)]))
 (mkI (3 : Nat)
 (pickI
 [(-1 :
 Int),
 (0 :
 Int),
 (1 :
 Int)]))).fst
 (Int.toNat
 (1 : Int))))) &&
 validL
 (mkL (2 : Nat)
 (pickI
 [(1 : Int),
 (3 : Int)])
 (pickI
 [(2 : Int),
 (1 : Int)])) &&
 getL
 (mkL (2 : Nat)
 (pickI
 [(1 : Int),
 (2 : Int)])
 (pickI
 [(1 : Int),
 (5 : Int)]))
 (2 : Int) ==
 (5 : Int) &&
 sameL
 (mkL
 (advanceL []
 (-1 : Int)).length
 (agF
 (advanceL [] (-1 : Int)))
 (ctF
 (advanceL [] (-1 : Int))))
 (mkL (1 : Nat)
 (pickI [(-1 : Int)])
 (pickI [(1 : Int)]))) =
 true)) := by kernel_rfl
theorem v9 : fnVc (tab [kV, kSame, kGet, kAdv, kJn, kMt, kLs, kCn, kSt] []) Try.f9 [] [] (plainIs .tt) := by
  rw [v9_eq]
  repeat' (first | apply And.intro | decide +kernel | intro _)
theorem fo9 : fnOk Try.prog 9 := ⟨Try.f9, Try.func9, by kernel_rfl, by kernel_rfl⟩

theorem mcLv : ∀ p ∈ [kV, kSame, kGet, kAdv, kJn, kMt, kLs, kCn, kSt], CallOk Try.prog [] p.1 p.2 := mOne c12 (mOne c14 (mOne c10 (mOne c15 (mOne c17 (mOne c19 (mOne c21 (mOne c23 (mOne c25 mNil))))))))
def fLv : List MBlk → List SV → Option AR := fun _ vs => match vs with
  | [] => some ⟨[], .tt, []⟩
  | _ => none
theorem c9 : CallOk Try.prog [] 9 fLv := by
  refine callOk_nil Try.func9 fo9 fun m vs ar h hp => ?_
  unfold fLv at h
  split at h
  · simp only [Option.some.injEq] at h
    subst h
    exact ⟨_, tabOk (loops := []) mcLv, fun _ => none, [], [], fun ρ xs h => h.nilc, rfl, rfl, fun i k0 hi => by simp at hi, fun g i hi => absurd hi (by simp [tab, assoc]), .inl ⟨rfl, rfl, v9⟩⟩
  · cases h
end Go.Proofs.Ythdmdlipifpbhaa
