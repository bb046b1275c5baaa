/-
  NARROWER THAN 'FOR EVERY INPUT', by the rows' own cells (each row's printed sentence says how): EventAgents: laid · EventDependent: laid · EventStable: laid · EventObjects: laid · EventValid: laid.
  DERIVED. THE GIVEN ROWS OF THIS SEAT. 5 by the template 'for every input the law returns true; each argument reads behind the call as it read before'; 0 by the template 'total and deterministic' (their statements: YtbhopcgbdofcjaaDoorTotals.lean).
  GIVEN WITH THE SEED: the statements are not yours to turn. If you find one false, say at which input.
  Laid BY PROGRAM, IN A SANDBOX (cutbox-rows.mjs): the forced cells as the released guide's own fill.sh prints them over the translation 50bb255f1adb236a… (all of the seat's roots in one cut). By AI agents, Wed Nov 11 2026. No macro, syntax, notation, axiom, sorry.
-/
import Derived.Test.YtbhopcgbdofcjaaDoorChecked
import GoSem.Claim
import GoSem.ClaimJoined
import GoSem.ClaimMapViews
import Derived.JoinedTies
import Derived.KernelRfl
namespace Go.Proofs.YtbhopcgbdofcjaaDoor
/- THE CELL 'sum', in the pinned program and in every row, IS THE sha256 OF THE DUMP (.gsa) THAT YtbhopcgbdofcjaaDoorProg.lean LOADS. Nothing in Lean hashes anything: it is a label: what it is worth is what the hold of that sum in a sandbox is worth. -/
noncomputable def Tryd.pinned : Pinned := { name := "ytbhopcgbdofcjaadoor", sum := "50bb255f1adb236a1ff8dd366eda538947a4fe18c6ce711380a8b3b2f9c96841", checked := Tryd.checked }
namespace Rows
def none {H : Type} : Left H := { results := [], args := [] }

/- WHAT THE LISTED PACKAGE-LEVEL VARIABLES READ AS WHEN THE CALL BEGINS. Each datum BY PROGRAM (the guide's laid-datum.mjs) off the statement by which the dump's own 'gosem.cut.vars' lays the variable. In a bare row this is a premise. The card (YtbhopcgbdofcjaaDoorCards.lean) ties it to the program's text. -/
def laid_modelcheck_event_rows {H : Type} : DataW H := .agg [.agg [.lit (.int .i64 7), .lit (.bool true), .lit (.int .i64 (-2147483648)), .lit (.int .i64 2147483647), .lit (.bool false), .lit (.int .i64 (-1)), .lit (.int .i64 1), .lit (.bool false)], .agg [.lit (.int .i64 7), .lit (.bool true), .lit (.int .i64 0), .lit (.int .i64 0), .lit (.bool true), .lit (.int .i64 (-2)), .lit (.int .i64 1), .lit (.bool true)], .agg [.lit (.int .i64 7), .lit (.bool true), .lit (.int .i64 0), .lit (.int .i64 0), .lit (.bool true), .lit (.int .i64 0), .lit (.int .i64 4), .lit (.bool true)], .agg [.lit (.int .i64 7), .lit (.bool false), .lit (.int .i64 0), .lit (.int .i64 0), .lit (.bool true), .lit (.int .i64 0), .lit (.int .i64 1), .lit (.bool true)], .agg [.lit (.int .i64 7), .lit (.bool true), .lit (.int .i64 (-2147483648)), .lit (.int .i64 2147483647), .lit (.bool true), .lit (.int .i64 (-2)), .lit (.int .i64 1), .lit (.bool true)], .agg [.lit (.int .i64 7), .lit (.bool true), .lit (.int .i64 (-2147483648)), .lit (.int .i64 2147483647), .lit (.bool false), .lit (.int .i64 (-2)), .lit (.int .i64 1), .lit (.bool false)], .agg [.lit (.int .i64 0), .lit (.bool false), .lit (.int .i64 0), .lit (.int .i64 0), .lit (.bool false), .lit (.int .i64 (-2)), .lit (.int .i64 0), .lit (.bool false)], .agg [.lit (.int .i64 7), .lit (.bool true), .lit (.int .i64 (-2147483648)), .lit (.int .i64 2147483647), .lit (.bool false), .lit (.int .i64 (-1)), .lit (.int .i64 1), .lit (.bool false)], .agg [.lit (.int .i64 3), .lit (.bool false), .lit (.int .i64 0), .lit (.int .i64 0), .lit (.bool false), .lit (.int .i64 (-2)), .lit (.int .i64 2), .lit (.bool true)], .agg [.lit (.int .i64 3), .lit (.bool false), .lit (.int .i64 0), .lit (.int .i64 0), .lit (.bool false), .lit (.int .i64 (-2)), .lit (.int .i64 2), .lit (.bool true)], .agg [.lit (.int .i64 3), .lit (.bool false), .lit (.int .i64 0), .lit (.int .i64 1), .lit (.bool false), .lit (.int .i64 (-2)), .lit (.int .i64 2), .lit (.bool true)], .agg [.lit (.int .i64 3), .lit (.bool false), .lit (.int .i64 0), .lit (.int .i64 0), .lit (.bool false), .lit (.int .i64 (-2)), .lit (.int .i64 3), .lit (.bool true)], .agg [.lit (.int .i64 3), .lit (.bool false), .lit (.int .i64 0), .lit (.int .i64 0), .lit (.bool false), .lit (.int .i64 (-2)), .lit (.int .i64 3), .lit (.bool true)], .agg [.lit (.int .i64 3), .lit (.bool false), .lit (.int .i64 0), .lit (.int .i64 1), .lit (.bool false), .lit (.int .i64 (-2)), .lit (.int .i64 3), .lit (.bool true)], .agg [.lit (.int .i64 3), .lit (.bool false), .lit (.int .i64 0), .lit (.int .i64 (-1)), .lit (.bool false), .lit (.int .i64 (-2)), .lit (.int .i64 3), .lit (.bool true)], .agg [.lit (.int .i64 (-1)), .lit (.bool false), .lit (.int .i64 0), .lit (.int .i64 0), .lit (.bool false), .lit (.int .i64 (-2)), .lit (.int .i64 0), .lit (.bool false)], .agg [.lit (.int .i64 (-1)), .lit (.bool false), .lit (.int .i64 0), .lit (.int .i64 0), .lit (.bool false), .lit (.int .i64 (-2)), .lit (.int .i64 0), .lit (.bool false)]]

/-- 'modelchecklaw22.EventAgents': WHATEVER THE INPUT: true; the input reads as it did. -/
def eventAgentsSpec : ChangeSpec := { name := "eventAgents", fn := fun _ => fun
  | [d] => { results := [.lit (.bool true)], args := [d] }
  | _ => none }
def eventAgentsRow : OpenClaim := { program := "ytbhopcgbdofcjaadoor", sum := "50bb255f1adb236a1ff8dd366eda538947a4fe18c6ce711380a8b3b2f9c96841", func := "modelcheck/modelchecklaw22.EventAgents", spec := "eventAgents", named := ["modelcheck/event.rows"], apart := false, laid := [("modelcheck/event.rows", laid_modelcheck_event_rows)] }
def EventAgentsSaid : Prop := eventAgentsRow.holds Tryd.pinned (OpenSpec.ofChange eventAgentsSpec)

/-- ITS FALSE NEIGHBOUR: 'it returns false'. Refute it at one input. -/
def eventAgentsWrong : ChangeSpec := { name := "eventAgents", fn := fun _ => fun
  | [d] => { results := [.lit (.bool false)], args := [d] }
  | _ => none }
def EventAgentsWrongFalsely : Prop := eventAgentsRow.holds Tryd.pinned (OpenSpec.ofChange eventAgentsWrong)

/-- 'modelchecklaw22.EventDependent': WHATEVER THE INPUT: true; the input reads as it did. -/
def eventDependentSpec : ChangeSpec := { name := "eventDependent", fn := fun _ => fun
  | [d1, d2] => { results := [.lit (.bool true)], args := [d1, d2] }
  | _ => none }
def eventDependentRow : OpenClaim := { program := "ytbhopcgbdofcjaadoor", sum := "50bb255f1adb236a1ff8dd366eda538947a4fe18c6ce711380a8b3b2f9c96841", func := "modelcheck/modelchecklaw22.EventDependent", spec := "eventDependent", named := ["modelcheck/event.rows"], apart := false, laid := [("modelcheck/event.rows", laid_modelcheck_event_rows)] }
def EventDependentSaid : Prop := eventDependentRow.holds Tryd.pinned (OpenSpec.ofChange eventDependentSpec)

/-- ITS FALSE NEIGHBOUR: 'it returns false'. Refute it at one input. -/
def eventDependentWrong : ChangeSpec := { name := "eventDependent", fn := fun _ => fun
  | [d1, d2] => { results := [.lit (.bool false)], args := [d1, d2] }
  | _ => none }
def EventDependentWrongFalsely : Prop := eventDependentRow.holds Tryd.pinned (OpenSpec.ofChange eventDependentWrong)

/-- 'modelchecklaw22.EventStable': WHATEVER THE INPUT: true; the input reads as it did. -/
def eventStableSpec : ChangeSpec := { name := "eventStable", fn := fun _ => fun
  | [d1, d2, d3] => { results := [.lit (.bool true)], args := [d1, d2, d3] }
  | _ => none }
def eventStableRow : OpenClaim := { program := "ytbhopcgbdofcjaadoor", sum := "50bb255f1adb236a1ff8dd366eda538947a4fe18c6ce711380a8b3b2f9c96841", func := "modelcheck/modelchecklaw22.EventStable", spec := "eventStable", named := ["modelcheck/event.rows"], apart := false, laid := [("modelcheck/event.rows", laid_modelcheck_event_rows)] }
def EventStableSaid : Prop := eventStableRow.holds Tryd.pinned (OpenSpec.ofChange eventStableSpec)

/-- ITS FALSE NEIGHBOUR: 'it returns false'. Refute it at one input. -/
def eventStableWrong : ChangeSpec := { name := "eventStable", fn := fun _ => fun
  | [d1, d2, d3] => { results := [.lit (.bool false)], args := [d1, d2, d3] }
  | _ => none }
def EventStableWrongFalsely : Prop := eventStableRow.holds Tryd.pinned (OpenSpec.ofChange eventStableWrong)

/-- 'modelchecklaw22.EventObjects': WHATEVER THE INPUT: true; the input reads as it did. -/
def eventObjectsSpec : ChangeSpec := { name := "eventObjects", fn := fun _ => fun
  | [d1, d2] => { results := [.lit (.bool true)], args := [d1, d2] }
  | _ => none }
def eventObjectsRow : OpenClaim := { program := "ytbhopcgbdofcjaadoor", sum := "50bb255f1adb236a1ff8dd366eda538947a4fe18c6ce711380a8b3b2f9c96841", func := "modelcheck/modelchecklaw22.EventObjects", spec := "eventObjects", named := ["modelcheck/event.rows"], apart := false, laid := [("modelcheck/event.rows", laid_modelcheck_event_rows)] }
def EventObjectsSaid : Prop := eventObjectsRow.holds Tryd.pinned (OpenSpec.ofChange eventObjectsSpec)

/-- ITS FALSE NEIGHBOUR: 'it returns false'. Refute it at one input. -/
def eventObjectsWrong : ChangeSpec := { name := "eventObjects", fn := fun _ => fun
  | [d1, d2] => { results := [.lit (.bool false)], args := [d1, d2] }
  | _ => none }
def EventObjectsWrongFalsely : Prop := eventObjectsRow.holds Tryd.pinned (OpenSpec.ofChange eventObjectsWrong)

/-- 'modelchecklaw22.EventValid': WHATEVER THE INPUT: true; the input reads as it did. -/
def eventValidSpec : ChangeSpec := { name := "eventValid", fn := fun _ => fun
  | [d] => { results := [.lit (.bool true)], args := [d] }
  | _ => none }
def eventValidRow : OpenClaim := { program := "ytbhopcgbdofcjaadoor", sum := "50bb255f1adb236a1ff8dd366eda538947a4fe18c6ce711380a8b3b2f9c96841", func := "modelcheck/modelchecklaw22.EventValid", spec := "eventValid", named := ["modelcheck/event.rows"], apart := false, laid := [("modelcheck/event.rows", laid_modelcheck_event_rows)] }
def EventValidSaid : Prop := eventValidRow.holds Tryd.pinned (OpenSpec.ofChange eventValidSpec)

/-- ITS FALSE NEIGHBOUR: 'it returns false'. Refute it at one input. -/
def eventValidWrong : ChangeSpec := { name := "eventValid", fn := fun _ => fun
  | [d] => { results := [.lit (.bool false)], args := [d] }
  | _ => none }
def EventValidWrongFalsely : Prop := eventValidRow.holds Tryd.pinned (OpenSpec.ofChange eventValidWrong)

/- THE SECOND FORM. 'bulk': how many values and letters a reading holds, each counted each time it is reached (what is shared counts as often as it is met; a slice's spare places count too). A statement '..UptoSaid' is the law's where the arguments, and the package variables that the reading takes, are together of bulk at most 1048576: NARROWER than '..Said'. Prove '..Said' where nothing that the law and all that it calls make is longer than what came in: it says more and counts as full. Else prove '..UptoSaid'. A law counts once. -/
mutual
def uptoBulk {H : Type} : DataW H → Nat
  | .lit (.string bytes) => bytes.length + 1
  | .lit _ => 1
  | .nil => 1
  | .ptr d => uptoBulk d + 1
  | .slice elems spare => uptoBulkAll elems + uptoBulkAll spare + 1
  | .agg parts => uptoBulkAll parts + 1
  | .iface _ d => uptoBulk d + 1
  | .map entries => uptoBulkEntries entries + 1
  | .held _ => 1
def uptoBulkAll {H : Type} : List (DataW H) → Nat
  | [] => 0
  | d :: r => uptoBulk d + uptoBulkAll r
def uptoBulkEntries {H : Type} : List (Lit × DataW H) → Nat
  | [] => 0
  | x :: r => uptoBulkEntry x + uptoBulkEntries r
def uptoBulkEntry {H : Type} : Lit × DataW H → Nat
  | (.string bytes, d) => bytes.length + uptoBulk d + 1
  | (_, d) => uptoBulk d + 1
 end
def uptoSmall : (H : Type) → List (DataW H) → Bool := fun _ ds => decide (uptoBulkAll ds ≤ 1048576)
def OpenSpec.upto (s : _root_.Go.ChangeSpec) : _root_.Go.OpenSpec := { _root_.Go.OpenSpec.ofChange s with cond := some uptoSmall }

/-- 'modelchecklaw22.EventAgents', WHERE WHAT IT READS IS OF BULK AT MOST 1048576: true; the input reads as it did. -/
def eventAgentsUptoRow : OpenClaim := { program := "ytbhopcgbdofcjaadoor", sum := "50bb255f1adb236a1ff8dd366eda538947a4fe18c6ce711380a8b3b2f9c96841", func := "modelcheck/modelchecklaw22.EventAgents", spec := "eventAgents", named := ["modelcheck/event.rows"], apart := false, laid := [("modelcheck/event.rows", laid_modelcheck_event_rows)], narrowed := true }
def EventAgentsUptoSaid : Prop := eventAgentsUptoRow.holds Tryd.pinned (OpenSpec.upto eventAgentsSpec)

/-- 'modelchecklaw22.EventDependent', WHERE WHAT IT READS IS OF BULK AT MOST 1048576: true; the input reads as it did. -/
def eventDependentUptoRow : OpenClaim := { program := "ytbhopcgbdofcjaadoor", sum := "50bb255f1adb236a1ff8dd366eda538947a4fe18c6ce711380a8b3b2f9c96841", func := "modelcheck/modelchecklaw22.EventDependent", spec := "eventDependent", named := ["modelcheck/event.rows"], apart := false, laid := [("modelcheck/event.rows", laid_modelcheck_event_rows)], narrowed := true }
def EventDependentUptoSaid : Prop := eventDependentUptoRow.holds Tryd.pinned (OpenSpec.upto eventDependentSpec)

/-- 'modelchecklaw22.EventStable', WHERE WHAT IT READS IS OF BULK AT MOST 1048576: true; the input reads as it did. -/
def eventStableUptoRow : OpenClaim := { program := "ytbhopcgbdofcjaadoor", sum := "50bb255f1adb236a1ff8dd366eda538947a4fe18c6ce711380a8b3b2f9c96841", func := "modelcheck/modelchecklaw22.EventStable", spec := "eventStable", named := ["modelcheck/event.rows"], apart := false, laid := [("modelcheck/event.rows", laid_modelcheck_event_rows)], narrowed := true }
def EventStableUptoSaid : Prop := eventStableUptoRow.holds Tryd.pinned (OpenSpec.upto eventStableSpec)

/-- 'modelchecklaw22.EventObjects', WHERE WHAT IT READS IS OF BULK AT MOST 1048576: true; the input reads as it did. -/
def eventObjectsUptoRow : OpenClaim := { program := "ytbhopcgbdofcjaadoor", sum := "50bb255f1adb236a1ff8dd366eda538947a4fe18c6ce711380a8b3b2f9c96841", func := "modelcheck/modelchecklaw22.EventObjects", spec := "eventObjects", named := ["modelcheck/event.rows"], apart := false, laid := [("modelcheck/event.rows", laid_modelcheck_event_rows)], narrowed := true }
def EventObjectsUptoSaid : Prop := eventObjectsUptoRow.holds Tryd.pinned (OpenSpec.upto eventObjectsSpec)

/-- 'modelchecklaw22.EventValid', WHERE WHAT IT READS IS OF BULK AT MOST 1048576: true; the input reads as it did. -/
def eventValidUptoRow : OpenClaim := { program := "ytbhopcgbdofcjaadoor", sum := "50bb255f1adb236a1ff8dd366eda538947a4fe18c6ce711380a8b3b2f9c96841", func := "modelcheck/modelchecklaw22.EventValid", spec := "eventValid", named := ["modelcheck/event.rows"], apart := false, laid := [("modelcheck/event.rows", laid_modelcheck_event_rows)], narrowed := true }
def EventValidUptoSaid : Prop := eventValidUptoRow.holds Tryd.pinned (OpenSpec.upto eventValidSpec)

end Rows
end Go.Proofs.YtbhopcgbdofcjaaDoor
