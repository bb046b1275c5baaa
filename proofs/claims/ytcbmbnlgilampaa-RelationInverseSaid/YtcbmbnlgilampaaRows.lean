/-
  No cell of these rows narrows 'for every input' (looked for: loops, veiled, ifaces, maps, wideKeys, modest, calm, conditions, laid).
  DERIVED. THE GIVEN ROWS OF THIS SEAT. 7 by the template 'for every input the law returns true; each argument reads behind the call as it read before'; 0 by the template 'total and deterministic' (their statements: YtcbmbnlgilampaaTotals.lean).
  GIVEN WITH THE SEED: the statements are not yours to turn. If you find one false, say at which input.
  Laid BY PROGRAM, IN A SANDBOX (cutbox-rows.mjs): the forced cells as the released guide's own fill.sh prints them over the translation c1d2011bddc51658… (all of the seat's roots in one cut). By AI agents, Wed Nov 11 2026. No macro, syntax, notation, axiom, sorry.
-/
import Derived.Test.YtcbmbnlgilampaaChecked
import GoSem.Claim
import GoSem.ClaimJoined
import GoSem.ClaimMapViews
import Derived.JoinedTies
import Derived.KernelRfl
namespace Go.Proofs.Ytcbmbnlgilampaa
/- THE CELL 'sum', in the pinned program and in every row, IS THE sha256 OF THE DUMP (.gsa) THAT YtcbmbnlgilampaaProg.lean LOADS. Nothing in Lean hashes anything: it is a label: what it is worth is what the hold of that sum in a sandbox is worth. -/
noncomputable def Try.pinned : Pinned := { name := "ytcbmbnlgilampaa", sum := "c1d2011bddc51658142dad395bd358a3ad48afa31c73eeefd5c58fa05b234fd2", checked := Try.checked }
namespace Rows
def none {H : Type} : Left H := { results := [], args := [] }

/-- 'modelchecklaw04.RelationCloses': WHATEVER THE INPUT: true; the input reads as it did. -/
def relationClosesSpec : ChangeSpec := { name := "relationCloses", fn := fun _ => fun
  | [d] => { results := [.lit (.bool true)], args := [d] }
  | _ => none }
def relationClosesRow : OpenClaim := { program := "ytcbmbnlgilampaa", sum := "c1d2011bddc51658142dad395bd358a3ad48afa31c73eeefd5c58fa05b234fd2", func := "modelcheck/modelchecklaw04.RelationCloses", spec := "relationCloses", unfollowed := true, recurses := true, plainKeys := false, apart := false }
def RelationClosesSaid : Prop := relationClosesRow.holds Try.pinned (OpenSpec.ofChange relationClosesSpec)

/-- ITS FALSE NEIGHBOUR: 'it returns false'. Refute it at one input. -/
def relationClosesWrong : ChangeSpec := { name := "relationCloses", fn := fun _ => fun
  | [d] => { results := [.lit (.bool false)], args := [d] }
  | _ => none }
def RelationClosesWrongFalsely : Prop := relationClosesRow.holds Try.pinned (OpenSpec.ofChange relationClosesWrong)

/-- 'modelchecklaw04.RelationReduces': WHATEVER THE INPUT: true; the input reads as it did. -/
def relationReducesSpec : ChangeSpec := { name := "relationReduces", fn := fun _ => fun
  | [d] => { results := [.lit (.bool true)], args := [d] }
  | _ => none }
def relationReducesRow : OpenClaim := { program := "ytcbmbnlgilampaa", sum := "c1d2011bddc51658142dad395bd358a3ad48afa31c73eeefd5c58fa05b234fd2", func := "modelcheck/modelchecklaw04.RelationReduces", spec := "relationReduces", unfollowed := true, recurses := true, plainKeys := false, apart := false }
def RelationReducesSaid : Prop := relationReducesRow.holds Try.pinned (OpenSpec.ofChange relationReducesSpec)

/-- ITS FALSE NEIGHBOUR: 'it returns false'. Refute it at one input. -/
def relationReducesWrong : ChangeSpec := { name := "relationReduces", fn := fun _ => fun
  | [d] => { results := [.lit (.bool false)], args := [d] }
  | _ => none }
def RelationReducesWrongFalsely : Prop := relationReducesRow.holds Try.pinned (OpenSpec.ofChange relationReducesWrong)

/-- 'modelchecklaw04.RelationTells': WHATEVER THE INPUT: true; the input reads as it did. -/
def relationTellsSpec : ChangeSpec := { name := "relationTells", fn := fun _ => fun
  | [d1, d2, d3] => { results := [.lit (.bool true)], args := [d1, d2, d3] }
  | _ => none }
def relationTellsRow : OpenClaim := { program := "ytcbmbnlgilampaa", sum := "c1d2011bddc51658142dad395bd358a3ad48afa31c73eeefd5c58fa05b234fd2", func := "modelcheck/modelchecklaw04.RelationTells", spec := "relationTells", unfollowed := true, recurses := true, plainKeys := false, apart := false }
def RelationTellsSaid : Prop := relationTellsRow.holds Try.pinned (OpenSpec.ofChange relationTellsSpec)

/-- ITS FALSE NEIGHBOUR: 'it returns false'. Refute it at one input. -/
def relationTellsWrong : ChangeSpec := { name := "relationTells", fn := fun _ => fun
  | [d1, d2, d3] => { results := [.lit (.bool false)], args := [d1, d2, d3] }
  | _ => none }
def RelationTellsWrongFalsely : Prop := relationTellsRow.holds Try.pinned (OpenSpec.ofChange relationTellsWrong)

/-- 'modelchecklaw04.RelationReduction': WHATEVER THE INPUT: true; the input reads as it did. -/
def relationReductionSpec : ChangeSpec := { name := "relationReduction", fn := fun _ => fun
  | [d] => { results := [.lit (.bool true)], args := [d] }
  | _ => none }
def relationReductionRow : OpenClaim := { program := "ytcbmbnlgilampaa", sum := "c1d2011bddc51658142dad395bd358a3ad48afa31c73eeefd5c58fa05b234fd2", func := "modelcheck/modelchecklaw04.RelationReduction", spec := "relationReduction", unfollowed := true, recurses := true, plainKeys := false, apart := false }
def RelationReductionSaid : Prop := relationReductionRow.holds Try.pinned (OpenSpec.ofChange relationReductionSpec)

/-- ITS FALSE NEIGHBOUR: 'it returns false'. Refute it at one input. -/
def relationReductionWrong : ChangeSpec := { name := "relationReduction", fn := fun _ => fun
  | [d] => { results := [.lit (.bool false)], args := [d] }
  | _ => none }
def RelationReductionWrongFalsely : Prop := relationReductionRow.holds Try.pinned (OpenSpec.ofChange relationReductionWrong)

/-- 'modelchecklaw04.RelationClosure': WHATEVER THE INPUT: true; the input reads as it did. -/
def relationClosureSpec : ChangeSpec := { name := "relationClosure", fn := fun _ => fun
  | [d1, d2] => { results := [.lit (.bool true)], args := [d1, d2] }
  | _ => none }
def relationClosureRow : OpenClaim := { program := "ytcbmbnlgilampaa", sum := "c1d2011bddc51658142dad395bd358a3ad48afa31c73eeefd5c58fa05b234fd2", func := "modelcheck/modelchecklaw04.RelationClosure", spec := "relationClosure", unfollowed := true, recurses := true, plainKeys := false, apart := false }
def RelationClosureSaid : Prop := relationClosureRow.holds Try.pinned (OpenSpec.ofChange relationClosureSpec)

/-- ITS FALSE NEIGHBOUR: 'it returns false'. Refute it at one input. -/
def relationClosureWrong : ChangeSpec := { name := "relationClosure", fn := fun _ => fun
  | [d1, d2] => { results := [.lit (.bool false)], args := [d1, d2] }
  | _ => none }
def RelationClosureWrongFalsely : Prop := relationClosureRow.holds Try.pinned (OpenSpec.ofChange relationClosureWrong)

/-- 'modelchecklaw04.RelationInverse': WHATEVER THE INPUT: true; the input reads as it did. -/
def relationInverseSpec : ChangeSpec := { name := "relationInverse", fn := fun _ => fun
  | [d1, d2] => { results := [.lit (.bool true)], args := [d1, d2] }
  | _ => none }
def relationInverseRow : OpenClaim := { program := "ytcbmbnlgilampaa", sum := "c1d2011bddc51658142dad395bd358a3ad48afa31c73eeefd5c58fa05b234fd2", func := "modelcheck/modelchecklaw04.RelationInverse", spec := "relationInverse", unfollowed := true, recurses := true, plainKeys := false, apart := false }
def RelationInverseSaid : Prop := relationInverseRow.holds Try.pinned (OpenSpec.ofChange relationInverseSpec)

/-- ITS FALSE NEIGHBOUR: 'it returns false'. Refute it at one input. -/
def relationInverseWrong : ChangeSpec := { name := "relationInverse", fn := fun _ => fun
  | [d1, d2] => { results := [.lit (.bool false)], args := [d1, d2] }
  | _ => none }
def RelationInverseWrongFalsely : Prop := relationInverseRow.holds Try.pinned (OpenSpec.ofChange relationInverseWrong)

/-- 'modelchecklaw04.RelationJoins': WHATEVER THE INPUT: true; the input reads as it did. -/
def relationJoinsSpec : ChangeSpec := { name := "relationJoins", fn := fun _ => fun
  | [d1, d2] => { results := [.lit (.bool true)], args := [d1, d2] }
  | _ => none }
def relationJoinsRow : OpenClaim := { program := "ytcbmbnlgilampaa", sum := "c1d2011bddc51658142dad395bd358a3ad48afa31c73eeefd5c58fa05b234fd2", func := "modelcheck/modelchecklaw04.RelationJoins", spec := "relationJoins", unfollowed := true, recurses := true, plainKeys := false, apart := false }
def RelationJoinsSaid : Prop := relationJoinsRow.holds Try.pinned (OpenSpec.ofChange relationJoinsSpec)

/-- ITS FALSE NEIGHBOUR: 'it returns false'. Refute it at one input. -/
def relationJoinsWrong : ChangeSpec := { name := "relationJoins", fn := fun _ => fun
  | [d1, d2] => { results := [.lit (.bool false)], args := [d1, d2] }
  | _ => none }
def RelationJoinsWrongFalsely : Prop := relationJoinsRow.holds Try.pinned (OpenSpec.ofChange relationJoinsWrong)

/- THE SECOND FORM. 'bulk': how many values and letters a reading holds, each counted each time it is reached (what is shared counts as often as it is met; a slice's spare places count too). A statement '..UptoSaid' is the law's where the arguments, and the package variables that the reading takes, are together of bulk at most 1048576: NARROWER than '..Said'. Prove '..Said' where nothing that the law and all that it calls make is longer than what came in: it says more and counts as full. Else prove '..UptoSaid'. A law counts once. -/
mutual
def uptoBulk {H : Type} : DataW H → Nat
  | .lit (.string bytes) => bytes.length + 1
  | .lit _ => 1
  | .nil => 1
  | .ptr d => uptoBulk d + 1
  | .slice elems spare => uptoBulkAll elems + uptoBulkAll spare + 1
  | .agg parts => uptoBulkAll parts + 1
  | .iface _ d => uptoBulk d + 1
  | .map entries => uptoBulkEntries entries + 1
  | .held _ => 1
def uptoBulkAll {H : Type} : List (DataW H) → Nat
  | [] => 0
  | d :: r => uptoBulk d + uptoBulkAll r
def uptoBulkEntries {H : Type} : List (Lit × DataW H) → Nat
  | [] => 0
  | x :: r => uptoBulkEntry x + uptoBulkEntries r
def uptoBulkEntry {H : Type} : Lit × DataW H → Nat
  | (.string bytes, d) => bytes.length + uptoBulk d + 1
  | (_, d) => uptoBulk d + 1
 end
def uptoSmall : (H : Type) → List (DataW H) → Bool := fun _ ds => decide (uptoBulkAll ds ≤ 1048576)
def OpenSpec.upto (s : _root_.Go.ChangeSpec) : _root_.Go.OpenSpec := { _root_.Go.OpenSpec.ofChange s with cond := some uptoSmall }

/-- 'modelchecklaw04.RelationCloses', WHERE WHAT IT READS IS OF BULK AT MOST 1048576: true; the input reads as it did. -/
def relationClosesUptoRow : OpenClaim := { program := "ytcbmbnlgilampaa", sum := "c1d2011bddc51658142dad395bd358a3ad48afa31c73eeefd5c58fa05b234fd2", func := "modelcheck/modelchecklaw04.RelationCloses", spec := "relationCloses", unfollowed := true, recurses := true, plainKeys := false, apart := false, narrowed := true }
def RelationClosesUptoSaid : Prop := relationClosesUptoRow.holds Try.pinned (OpenSpec.upto relationClosesSpec)

/-- 'modelchecklaw04.RelationReduces', WHERE WHAT IT READS IS OF BULK AT MOST 1048576: true; the input reads as it did. -/
def relationReducesUptoRow : OpenClaim := { program := "ytcbmbnlgilampaa", sum := "c1d2011bddc51658142dad395bd358a3ad48afa31c73eeefd5c58fa05b234fd2", func := "modelcheck/modelchecklaw04.RelationReduces", spec := "relationReduces", unfollowed := true, recurses := true, plainKeys := false, apart := false, narrowed := true }
def RelationReducesUptoSaid : Prop := relationReducesUptoRow.holds Try.pinned (OpenSpec.upto relationReducesSpec)

/-- 'modelchecklaw04.RelationTells', WHERE WHAT IT READS IS OF BULK AT MOST 1048576: true; the input reads as it did. -/
def relationTellsUptoRow : OpenClaim := { program := "ytcbmbnlgilampaa", sum := "c1d2011bddc51658142dad395bd358a3ad48afa31c73eeefd5c58fa05b234fd2", func := "modelcheck/modelchecklaw04.RelationTells", spec := "relationTells", unfollowed := true, recurses := true, plainKeys := false, apart := false, narrowed := true }
def RelationTellsUptoSaid : Prop := relationTellsUptoRow.holds Try.pinned (OpenSpec.upto relationTellsSpec)

/-- 'modelchecklaw04.RelationReduction', WHERE WHAT IT READS IS OF BULK AT MOST 1048576: true; the input reads as it did. -/
def relationReductionUptoRow : OpenClaim := { program := "ytcbmbnlgilampaa", sum := "c1d2011bddc51658142dad395bd358a3ad48afa31c73eeefd5c58fa05b234fd2", func := "modelcheck/modelchecklaw04.RelationReduction", spec := "relationReduction", unfollowed := true, recurses := true, plainKeys := false, apart := false, narrowed := true }
def RelationReductionUptoSaid : Prop := relationReductionUptoRow.holds Try.pinned (OpenSpec.upto relationReductionSpec)

/-- 'modelchecklaw04.RelationClosure', WHERE WHAT IT READS IS OF BULK AT MOST 1048576: true; the input reads as it did. -/
def relationClosureUptoRow : OpenClaim := { program := "ytcbmbnlgilampaa", sum := "c1d2011bddc51658142dad395bd358a3ad48afa31c73eeefd5c58fa05b234fd2", func := "modelcheck/modelchecklaw04.RelationClosure", spec := "relationClosure", unfollowed := true, recurses := true, plainKeys := false, apart := false, narrowed := true }
def RelationClosureUptoSaid : Prop := relationClosureUptoRow.holds Try.pinned (OpenSpec.upto relationClosureSpec)

/-- 'modelchecklaw04.RelationInverse', WHERE WHAT IT READS IS OF BULK AT MOST 1048576: true; the input reads as it did. -/
def relationInverseUptoRow : OpenClaim := { program := "ytcbmbnlgilampaa", sum := "c1d2011bddc51658142dad395bd358a3ad48afa31c73eeefd5c58fa05b234fd2", func := "modelcheck/modelchecklaw04.RelationInverse", spec := "relationInverse", unfollowed := true, recurses := true, plainKeys := false, apart := false, narrowed := true }
def RelationInverseUptoSaid : Prop := relationInverseUptoRow.holds Try.pinned (OpenSpec.upto relationInverseSpec)

/-- 'modelchecklaw04.RelationJoins', WHERE WHAT IT READS IS OF BULK AT MOST 1048576: true; the input reads as it did. -/
def relationJoinsUptoRow : OpenClaim := { program := "ytcbmbnlgilampaa", sum := "c1d2011bddc51658142dad395bd358a3ad48afa31c73eeefd5c58fa05b234fd2", func := "modelcheck/modelchecklaw04.RelationJoins", spec := "relationJoins", unfollowed := true, recurses := true, plainKeys := false, apart := false, narrowed := true }
def RelationJoinsUptoSaid : Prop := relationJoinsUptoRow.holds Try.pinned (OpenSpec.upto relationJoinsSpec)

end Rows
end Go.Proofs.Ytcbmbnlgilampaa
