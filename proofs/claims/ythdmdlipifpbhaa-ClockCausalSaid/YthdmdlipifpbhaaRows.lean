/-
  No cell of these rows narrows 'for every input' (looked for: loops, veiled, ifaces, maps, wideKeys, modest, calm, conditions, laid).
  DERIVED. THE GIVEN ROWS OF THIS SEAT. 6 by the template 'for every input the law returns true; each argument reads behind the call as it read before'; 0 by the template 'total and deterministic' (their statements: YthdmdlipifpbhaaTotals.lean).
  GIVEN WITH THE SEED: the statements are not yours to turn. If you find one false, say at which input.
  Laid BY PROGRAM, IN A SANDBOX (cutbox-rows.mjs): the forced cells as the released guide's own fill.sh prints them over the translation ccf9491bb09a128e… (all of the seat's roots in one cut). By AI agents, Wed Nov 11 2026. No macro, syntax, notation, axiom, sorry.
-/
import Derived.Test.YthdmdlipifpbhaaChecked
import GoSem.Claim
import GoSem.ClaimJoined
import GoSem.ClaimMapViews
import Derived.JoinedTies
import Derived.KernelRfl
namespace Go.Proofs.Ythdmdlipifpbhaa
/- THE CELL 'sum', in the pinned program and in every row, IS THE sha256 OF THE DUMP (.gsa) THAT YthdmdlipifpbhaaProg.lean LOADS. Nothing in Lean hashes anything: it is a label: what it is worth is what the hold of that sum in a sandbox is worth. -/
noncomputable def Try.pinned : Pinned := { name := "ythdmdlipifpbhaa", sum := "ccf9491bb09a128e17f6f8fe3d55d6f15934565fa8983ac92b998d932c657674", checked := Try.checked }
namespace Rows
def none {H : Type} : Left H := { results := [], args := [] }

/-- 'modelchecklaw03.ClockGets': WHATEVER THE INPUT: true; the input reads as it did. -/
def clockGetsSpec : ChangeSpec := { name := "clockGets", fn := fun _ => fun
  | [d1, d2] => { results := [.lit (.bool true)], args := [d1, d2] }
  | _ => none }
def clockGetsRow : OpenClaim := { program := "ythdmdlipifpbhaa", sum := "ccf9491bb09a128e17f6f8fe3d55d6f15934565fa8983ac92b998d932c657674", func := "modelcheck/modelchecklaw03.ClockGets", spec := "clockGets", apart := false }
def ClockGetsSaid : Prop := clockGetsRow.holds Try.pinned (OpenSpec.ofChange clockGetsSpec)

/-- ITS FALSE NEIGHBOUR: 'it returns false'. Refute it at one input. -/
def clockGetsWrong : ChangeSpec := { name := "clockGets", fn := fun _ => fun
  | [d1, d2] => { results := [.lit (.bool false)], args := [d1, d2] }
  | _ => none }
def ClockGetsWrongFalsely : Prop := clockGetsRow.holds Try.pinned (OpenSpec.ofChange clockGetsWrong)

/-- 'modelchecklaw03.ClockAdvances': WHATEVER THE INPUT: true; the input reads as it did. -/
def clockAdvancesSpec : ChangeSpec := { name := "clockAdvances", fn := fun _ => fun
  | [d1, d2] => { results := [.lit (.bool true)], args := [d1, d2] }
  | _ => none }
def clockAdvancesRow : OpenClaim := { program := "ythdmdlipifpbhaa", sum := "ccf9491bb09a128e17f6f8fe3d55d6f15934565fa8983ac92b998d932c657674", func := "modelcheck/modelchecklaw03.ClockAdvances", spec := "clockAdvances", apart := false }
def ClockAdvancesSaid : Prop := clockAdvancesRow.holds Try.pinned (OpenSpec.ofChange clockAdvancesSpec)

/-- ITS FALSE NEIGHBOUR: 'it returns false'. Refute it at one input. -/
def clockAdvancesWrong : ChangeSpec := { name := "clockAdvances", fn := fun _ => fun
  | [d1, d2] => { results := [.lit (.bool false)], args := [d1, d2] }
  | _ => none }
def ClockAdvancesWrongFalsely : Prop := clockAdvancesRow.holds Try.pinned (OpenSpec.ofChange clockAdvancesWrong)

/-- 'modelchecklaw03.ClockJoins': WHATEVER THE INPUT: true; the input reads as it did. -/
def clockJoinsSpec : ChangeSpec := { name := "clockJoins", fn := fun _ => fun
  | [d1, d2] => { results := [.lit (.bool true)], args := [d1, d2] }
  | _ => none }
def clockJoinsRow : OpenClaim := { program := "ythdmdlipifpbhaa", sum := "ccf9491bb09a128e17f6f8fe3d55d6f15934565fa8983ac92b998d932c657674", func := "modelcheck/modelchecklaw03.ClockJoins", spec := "clockJoins", apart := false }
def ClockJoinsSaid : Prop := clockJoinsRow.holds Try.pinned (OpenSpec.ofChange clockJoinsSpec)

/-- ITS FALSE NEIGHBOUR: 'it returns false'. Refute it at one input. -/
def clockJoinsWrong : ChangeSpec := { name := "clockJoins", fn := fun _ => fun
  | [d1, d2] => { results := [.lit (.bool false)], args := [d1, d2] }
  | _ => none }
def ClockJoinsWrongFalsely : Prop := clockJoinsRow.holds Try.pinned (OpenSpec.ofChange clockJoinsWrong)

/-- 'modelchecklaw03.ClockStamps': WHATEVER THE INPUT: true; the input reads as it did. -/
def clockStampsSpec : ChangeSpec := { name := "clockStamps", fn := fun _ => fun
  | [d1, d2] => { results := [.lit (.bool true)], args := [d1, d2] }
  | _ => none }
def clockStampsRow : OpenClaim := { program := "ythdmdlipifpbhaa", sum := "ccf9491bb09a128e17f6f8fe3d55d6f15934565fa8983ac92b998d932c657674", func := "modelcheck/modelchecklaw03.ClockStamps", spec := "clockStamps", apart := false }
def ClockStampsSaid : Prop := clockStampsRow.holds Try.pinned (OpenSpec.ofChange clockStampsSpec)

/-- ITS FALSE NEIGHBOUR: 'it returns false'. Refute it at one input. -/
def clockStampsWrong : ChangeSpec := { name := "clockStamps", fn := fun _ => fun
  | [d1, d2] => { results := [.lit (.bool false)], args := [d1, d2] }
  | _ => none }
def ClockStampsWrongFalsely : Prop := clockStampsRow.holds Try.pinned (OpenSpec.ofChange clockStampsWrong)

/-- 'modelchecklaw03.ClockLattice': WHATEVER THE INPUT: true; the input reads as it did. -/
def clockLatticeSpec : ChangeSpec := { name := "clockLattice", fn := fun _ => fun
  | [d1, d2, d3] => { results := [.lit (.bool true)], args := [d1, d2, d3] }
  | _ => none }
def clockLatticeRow : OpenClaim := { program := "ythdmdlipifpbhaa", sum := "ccf9491bb09a128e17f6f8fe3d55d6f15934565fa8983ac92b998d932c657674", func := "modelcheck/modelchecklaw03.ClockLattice", spec := "clockLattice", apart := false }
def ClockLatticeSaid : Prop := clockLatticeRow.holds Try.pinned (OpenSpec.ofChange clockLatticeSpec)

/-- ITS FALSE NEIGHBOUR: 'it returns false'. Refute it at one input. -/
def clockLatticeWrong : ChangeSpec := { name := "clockLattice", fn := fun _ => fun
  | [d1, d2, d3] => { results := [.lit (.bool false)], args := [d1, d2, d3] }
  | _ => none }
def ClockLatticeWrongFalsely : Prop := clockLatticeRow.holds Try.pinned (OpenSpec.ofChange clockLatticeWrong)

/-- 'modelchecklaw03.ClockCausal': WHATEVER THE INPUT: true; the input reads as it did. -/
def clockCausalSpec : ChangeSpec := { name := "clockCausal", fn := fun _ => fun
  | [d1, d2] => { results := [.lit (.bool true)], args := [d1, d2] }
  | _ => none }
def clockCausalRow : OpenClaim := { program := "ythdmdlipifpbhaa", sum := "ccf9491bb09a128e17f6f8fe3d55d6f15934565fa8983ac92b998d932c657674", func := "modelcheck/modelchecklaw03.ClockCausal", spec := "clockCausal", apart := false }
def ClockCausalSaid : Prop := clockCausalRow.holds Try.pinned (OpenSpec.ofChange clockCausalSpec)

/-- ITS FALSE NEIGHBOUR: 'it returns false'. Refute it at one input. -/
def clockCausalWrong : ChangeSpec := { name := "clockCausal", fn := fun _ => fun
  | [d1, d2] => { results := [.lit (.bool false)], args := [d1, d2] }
  | _ => none }
def ClockCausalWrongFalsely : Prop := clockCausalRow.holds Try.pinned (OpenSpec.ofChange clockCausalWrong)

/- THE SECOND FORM. 'bulk': how many values and letters a reading holds, each counted each time it is reached (what is shared counts as often as it is met; a slice's spare places count too). A statement '..UptoSaid' is the law's where the arguments, and the package variables that the reading takes, are together of bulk at most 1048576: NARROWER than '..Said'. Prove '..Said' where nothing that the law and all that it calls make is longer than what came in: it says more and counts as full. Else prove '..UptoSaid'. A law counts once. -/
mutual
def uptoBulk {H : Type} : DataW H → Nat
  | .lit (.string bytes) => bytes.length + 1
  | .lit _ => 1
  | .nil => 1
  | .ptr d => uptoBulk d + 1
  | .slice elems spare => uptoBulkAll elems + uptoBulkAll spare + 1
  | .agg parts => uptoBulkAll parts + 1
  | .iface _ d => uptoBulk d + 1
  | .map entries => uptoBulkEntries entries + 1
  | .held _ => 1
def uptoBulkAll {H : Type} : List (DataW H) → Nat
  | [] => 0
  | d :: r => uptoBulk d + uptoBulkAll r
def uptoBulkEntries {H : Type} : List (Lit × DataW H) → Nat
  | [] => 0
  | x :: r => uptoBulkEntry x + uptoBulkEntries r
def uptoBulkEntry {H : Type} : Lit × DataW H → Nat
  | (.string bytes, d) => bytes.length + uptoBulk d + 1
  | (_, d) => uptoBulk d + 1
 end
def uptoSmall : (H : Type) → List (DataW H) → Bool := fun _ ds => decide (uptoBulkAll ds ≤ 1048576)
def OpenSpec.upto (s : _root_.Go.ChangeSpec) : _root_.Go.OpenSpec := { _root_.Go.OpenSpec.ofChange s with cond := some uptoSmall }

/-- 'modelchecklaw03.ClockGets', WHERE WHAT IT READS IS OF BULK AT MOST 1048576: true; the input reads as it did. -/
def clockGetsUptoRow : OpenClaim := { program := "ythdmdlipifpbhaa", sum := "ccf9491bb09a128e17f6f8fe3d55d6f15934565fa8983ac92b998d932c657674", func := "modelcheck/modelchecklaw03.ClockGets", spec := "clockGets", apart := false, narrowed := true }
def ClockGetsUptoSaid : Prop := clockGetsUptoRow.holds Try.pinned (OpenSpec.upto clockGetsSpec)

/-- 'modelchecklaw03.ClockAdvances', WHERE WHAT IT READS IS OF BULK AT MOST 1048576: true; the input reads as it did. -/
def clockAdvancesUptoRow : OpenClaim := { program := "ythdmdlipifpbhaa", sum := "ccf9491bb09a128e17f6f8fe3d55d6f15934565fa8983ac92b998d932c657674", func := "modelcheck/modelchecklaw03.ClockAdvances", spec := "clockAdvances", apart := false, narrowed := true }
def ClockAdvancesUptoSaid : Prop := clockAdvancesUptoRow.holds Try.pinned (OpenSpec.upto clockAdvancesSpec)

/-- 'modelchecklaw03.ClockJoins', WHERE WHAT IT READS IS OF BULK AT MOST 1048576: true; the input reads as it did. -/
def clockJoinsUptoRow : OpenClaim := { program := "ythdmdlipifpbhaa", sum := "ccf9491bb09a128e17f6f8fe3d55d6f15934565fa8983ac92b998d932c657674", func := "modelcheck/modelchecklaw03.ClockJoins", spec := "clockJoins", apart := false, narrowed := true }
def ClockJoinsUptoSaid : Prop := clockJoinsUptoRow.holds Try.pinned (OpenSpec.upto clockJoinsSpec)

/-- 'modelchecklaw03.ClockStamps', WHERE WHAT IT READS IS OF BULK AT MOST 1048576: true; the input reads as it did. -/
def clockStampsUptoRow : OpenClaim := { program := "ythdmdlipifpbhaa", sum := "ccf9491bb09a128e17f6f8fe3d55d6f15934565fa8983ac92b998d932c657674", func := "modelcheck/modelchecklaw03.ClockStamps", spec := "clockStamps", apart := false, narrowed := true }
def ClockStampsUptoSaid : Prop := clockStampsUptoRow.holds Try.pinned (OpenSpec.upto clockStampsSpec)

/-- 'modelchecklaw03.ClockLattice', WHERE WHAT IT READS IS OF BULK AT MOST 1048576: true; the input reads as it did. -/
def clockLatticeUptoRow : OpenClaim := { program := "ythdmdlipifpbhaa", sum := "ccf9491bb09a128e17f6f8fe3d55d6f15934565fa8983ac92b998d932c657674", func := "modelcheck/modelchecklaw03.ClockLattice", spec := "clockLattice", apart := false, narrowed := true }
def ClockLatticeUptoSaid : Prop := clockLatticeUptoRow.holds Try.pinned (OpenSpec.upto clockLatticeSpec)

/-- 'modelchecklaw03.ClockCausal', WHERE WHAT IT READS IS OF BULK AT MOST 1048576: true; the input reads as it did. -/
def clockCausalUptoRow : OpenClaim := { program := "ythdmdlipifpbhaa", sum := "ccf9491bb09a128e17f6f8fe3d55d6f15934565fa8983ac92b998d932c657674", func := "modelcheck/modelchecklaw03.ClockCausal", spec := "clockCausal", apart := false, narrowed := true }
def ClockCausalUptoSaid : Prop := clockCausalUptoRow.holds Try.pinned (OpenSpec.upto clockCausalSpec)

end Rows
end Go.Proofs.Ythdmdlipifpbhaa
