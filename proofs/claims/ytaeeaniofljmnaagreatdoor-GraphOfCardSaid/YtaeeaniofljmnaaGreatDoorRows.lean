/-
  NARROWER THAN 'FOR EVERY INPUT', by the rows' own cells (each row's printed sentence says how): GraphDerived: laid · GraphForms: laid · GraphOrders: laid · GraphOf: laid · GraphRuns: laid · GraphSame: laid.
  DERIVED. THE GIVEN ROWS OF THIS SEAT. 6 by the template 'for every input the law returns true; each argument reads behind the call as it read before'; 0 by the template 'total and deterministic' (their statements: YtaeeaniofljmnaaGreatDoorTotals.lean).
  GIVEN WITH THE SEED: the statements are not yours to turn. If you find one false, say at which input.
  Laid BY PROGRAM, IN A SANDBOX (cutbox-rows.mjs): the forced cells as the released guide's own fill.sh prints them over the translation be1bca398a8c7e64… (all of the seat's roots in one cut). By AI agents, Wed Nov 11 2026. No macro, syntax, notation, axiom, sorry.
-/
import Derived.Test.YtaeeaniofljmnaaGreatDoorChecked
import GoSem.Claim
import GoSem.ClaimJoined
import GoSem.ClaimMapViews
import Derived.JoinedTies
import Derived.KernelRfl
namespace Go.Proofs.YtaeeaniofljmnaaGreatDoor
/- THE CELL 'sum', in the pinned program and in every row, IS THE sha256 OF THE DUMP (.gsa) THAT YtaeeaniofljmnaaGreatDoorProg.lean LOADS. Nothing in Lean hashes anything: it is a label: what it is worth is what the hold of that sum in a sandbox is worth. -/
noncomputable def Tryz.pinned : Pinned := { name := "ytaeeaniofljmnaagreatdoor", sum := "be1bca398a8c7e649104a10e2ceb1f6270d46ea512db0ed9aede71e7416e104c", checked := Tryz.checked }
namespace Rows
def none {H : Type} : Left H := { results := [], args := [] }

/- WHAT THE LISTED PACKAGE-LEVEL VARIABLES READ AS WHEN THE CALL BEGINS. Each datum BY PROGRAM (the guide's laid-datum.mjs) off the statement by which the dump's own 'gosem.cut.vars' lays the variable. In a bare row this is a premise. The card (YtaeeaniofljmnaaGreatDoorCards.lean) ties it to the program's text. -/
def laid_modelcheck_event_rows {H : Type} : DataW H := .agg [.agg [.lit (.int .i64 7), .lit (.bool true), .lit (.int .i64 (-2147483648)), .lit (.int .i64 2147483647), .lit (.bool false), .lit (.int .i64 (-1)), .lit (.int .i64 1), .lit (.bool false)], .agg [.lit (.int .i64 7), .lit (.bool true), .lit (.int .i64 0), .lit (.int .i64 0), .lit (.bool true), .lit (.int .i64 (-2)), .lit (.int .i64 1), .lit (.bool true)], .agg [.lit (.int .i64 7), .lit (.bool true), .lit (.int .i64 0), .lit (.int .i64 0), .lit (.bool true), .lit (.int .i64 0), .lit (.int .i64 4), .lit (.bool true)], .agg [.lit (.int .i64 7), .lit (.bool false), .lit (.int .i64 0), .lit (.int .i64 0), .lit (.bool true), .lit (.int .i64 0), .lit (.int .i64 1), .lit (.bool true)], .agg [.lit (.int .i64 7), .lit (.bool true), .lit (.int .i64 (-2147483648)), .lit (.int .i64 2147483647), .lit (.bool true), .lit (.int .i64 (-2)), .lit (.int .i64 1), .lit (.bool true)], .agg [.lit (.int .i64 7), .lit (.bool true), .lit (.int .i64 (-2147483648)), .lit (.int .i64 2147483647), .lit (.bool false), .lit (.int .i64 (-2)), .lit (.int .i64 1), .lit (.bool false)], .agg [.lit (.int .i64 0), .lit (.bool false), .lit (.int .i64 0), .lit (.int .i64 0), .lit (.bool false), .lit (.int .i64 (-2)), .lit (.int .i64 0), .lit (.bool false)], .agg [.lit (.int .i64 7), .lit (.bool true), .lit (.int .i64 (-2147483648)), .lit (.int .i64 2147483647), .lit (.bool false), .lit (.int .i64 (-1)), .lit (.int .i64 1), .lit (.bool false)], .agg [.lit (.int .i64 3), .lit (.bool false), .lit (.int .i64 0), .lit (.int .i64 0), .lit (.bool false), .lit (.int .i64 (-2)), .lit (.int .i64 2), .lit (.bool true)], .agg [.lit (.int .i64 3), .lit (.bool false), .lit (.int .i64 0), .lit (.int .i64 0), .lit (.bool false), .lit (.int .i64 (-2)), .lit (.int .i64 2), .lit (.bool true)], .agg [.lit (.int .i64 3), .lit (.bool false), .lit (.int .i64 0), .lit (.int .i64 1), .lit (.bool false), .lit (.int .i64 (-2)), .lit (.int .i64 2), .lit (.bool true)], .agg [.lit (.int .i64 3), .lit (.bool false), .lit (.int .i64 0), .lit (.int .i64 0), .lit (.bool false), .lit (.int .i64 (-2)), .lit (.int .i64 3), .lit (.bool true)], .agg [.lit (.int .i64 3), .lit (.bool false), .lit (.int .i64 0), .lit (.int .i64 0), .lit (.bool false), .lit (.int .i64 (-2)), .lit (.int .i64 3), .lit (.bool true)], .agg [.lit (.int .i64 3), .lit (.bool false), .lit (.int .i64 0), .lit (.int .i64 1), .lit (.bool false), .lit (.int .i64 (-2)), .lit (.int .i64 3), .lit (.bool true)], .agg [.lit (.int .i64 3), .lit (.bool false), .lit (.int .i64 0), .lit (.int .i64 (-1)), .lit (.bool false), .lit (.int .i64 (-2)), .lit (.int .i64 3), .lit (.bool true)], .agg [.lit (.int .i64 (-1)), .lit (.bool false), .lit (.int .i64 0), .lit (.int .i64 0), .lit (.bool false), .lit (.int .i64 (-2)), .lit (.int .i64 0), .lit (.bool false)], .agg [.lit (.int .i64 (-1)), .lit (.bool false), .lit (.int .i64 0), .lit (.int .i64 0), .lit (.bool false), .lit (.int .i64 (-2)), .lit (.int .i64 0), .lit (.bool false)]]

/-- 'modelchecklaw39.GraphDerived': WHATEVER THE INPUT: true; the input reads as it did. -/
def graphDerivedSpec : ChangeSpec := { name := "graphDerived", fn := fun _ => fun
  | [d] => { results := [.lit (.bool true)], args := [d] }
  | _ => none }
def graphDerivedRow : OpenClaim := { program := "ytaeeaniofljmnaagreatdoor", sum := "be1bca398a8c7e649104a10e2ceb1f6270d46ea512db0ed9aede71e7416e104c", func := "modelcheck/modelchecklaw39.GraphDerived", spec := "graphDerived", unfollowed := true, recurses := true, named := ["modelcheck/event.rows"], plainKeys := false, apart := false, laid := [("modelcheck/event.rows", laid_modelcheck_event_rows)] }
def GraphDerivedSaid : Prop := graphDerivedRow.holds Tryz.pinned (OpenSpec.ofChange graphDerivedSpec)

/-- ITS FALSE NEIGHBOUR: 'it returns false'. Refute it at one input. -/
def graphDerivedWrong : ChangeSpec := { name := "graphDerived", fn := fun _ => fun
  | [d] => { results := [.lit (.bool false)], args := [d] }
  | _ => none }
def GraphDerivedWrongFalsely : Prop := graphDerivedRow.holds Tryz.pinned (OpenSpec.ofChange graphDerivedWrong)

/-- 'modelchecklaw39.GraphForms': WHATEVER THE INPUT: true; the input reads as it did. -/
def graphFormsSpec : ChangeSpec := { name := "graphForms", fn := fun _ => fun
  | [d1, d2] => { results := [.lit (.bool true)], args := [d1, d2] }
  | _ => none }
def graphFormsRow : OpenClaim := { program := "ytaeeaniofljmnaagreatdoor", sum := "be1bca398a8c7e649104a10e2ceb1f6270d46ea512db0ed9aede71e7416e104c", func := "modelcheck/modelchecklaw39.GraphForms", spec := "graphForms", unfollowed := true, recurses := true, named := ["modelcheck/event.rows"], plainKeys := false, apart := false, laid := [("modelcheck/event.rows", laid_modelcheck_event_rows)] }
def GraphFormsSaid : Prop := graphFormsRow.holds Tryz.pinned (OpenSpec.ofChange graphFormsSpec)

/-- ITS FALSE NEIGHBOUR: 'it returns false'. Refute it at one input. -/
def graphFormsWrong : ChangeSpec := { name := "graphForms", fn := fun _ => fun
  | [d1, d2] => { results := [.lit (.bool false)], args := [d1, d2] }
  | _ => none }
def GraphFormsWrongFalsely : Prop := graphFormsRow.holds Tryz.pinned (OpenSpec.ofChange graphFormsWrong)

/-- 'modelchecklaw39.GraphOrders': WHATEVER THE INPUT: true; the input reads as it did. -/
def graphOrdersSpec : ChangeSpec := { name := "graphOrders", fn := fun _ => fun
  | [d] => { results := [.lit (.bool true)], args := [d] }
  | _ => none }
def graphOrdersRow : OpenClaim := { program := "ytaeeaniofljmnaagreatdoor", sum := "be1bca398a8c7e649104a10e2ceb1f6270d46ea512db0ed9aede71e7416e104c", func := "modelcheck/modelchecklaw39.GraphOrders", spec := "graphOrders", unfollowed := true, recurses := true, named := ["modelcheck/event.rows"], plainKeys := false, apart := false, laid := [("modelcheck/event.rows", laid_modelcheck_event_rows)] }
def GraphOrdersSaid : Prop := graphOrdersRow.holds Tryz.pinned (OpenSpec.ofChange graphOrdersSpec)

/-- ITS FALSE NEIGHBOUR: 'it returns false'. Refute it at one input. -/
def graphOrdersWrong : ChangeSpec := { name := "graphOrders", fn := fun _ => fun
  | [d] => { results := [.lit (.bool false)], args := [d] }
  | _ => none }
def GraphOrdersWrongFalsely : Prop := graphOrdersRow.holds Tryz.pinned (OpenSpec.ofChange graphOrdersWrong)

/-- 'modelchecklaw39.GraphOf': WHATEVER THE INPUT: true; the input reads as it did. -/
def graphOfSpec : ChangeSpec := { name := "graphOf", fn := fun _ => fun
  | [d] => { results := [.lit (.bool true)], args := [d] }
  | _ => none }
def graphOfRow : OpenClaim := { program := "ytaeeaniofljmnaagreatdoor", sum := "be1bca398a8c7e649104a10e2ceb1f6270d46ea512db0ed9aede71e7416e104c", func := "modelcheck/modelchecklaw39.GraphOf", spec := "graphOf", unfollowed := true, recurses := true, named := ["modelcheck/event.rows"], plainKeys := false, apart := false, laid := [("modelcheck/event.rows", laid_modelcheck_event_rows)] }
def GraphOfSaid : Prop := graphOfRow.holds Tryz.pinned (OpenSpec.ofChange graphOfSpec)

/-- ITS FALSE NEIGHBOUR: 'it returns false'. Refute it at one input. -/
def graphOfWrong : ChangeSpec := { name := "graphOf", fn := fun _ => fun
  | [d] => { results := [.lit (.bool false)], args := [d] }
  | _ => none }
def GraphOfWrongFalsely : Prop := graphOfRow.holds Tryz.pinned (OpenSpec.ofChange graphOfWrong)

/-- 'modelchecklaw39.GraphRuns': WHATEVER THE INPUT: true; the input reads as it did. -/
def graphRunsSpec : ChangeSpec := { name := "graphRuns", fn := fun _ => fun
  | [d1, d2, d3] => { results := [.lit (.bool true)], args := [d1, d2, d3] }
  | _ => none }
def graphRunsRow : OpenClaim := { program := "ytaeeaniofljmnaagreatdoor", sum := "be1bca398a8c7e649104a10e2ceb1f6270d46ea512db0ed9aede71e7416e104c", func := "modelcheck/modelchecklaw39.GraphRuns", spec := "graphRuns", unfollowed := true, recurses := true, named := ["modelcheck/event.rows"], plainKeys := false, apart := false, laid := [("modelcheck/event.rows", laid_modelcheck_event_rows)] }
def GraphRunsSaid : Prop := graphRunsRow.holds Tryz.pinned (OpenSpec.ofChange graphRunsSpec)

/-- ITS FALSE NEIGHBOUR: 'it returns false'. Refute it at one input. -/
def graphRunsWrong : ChangeSpec := { name := "graphRuns", fn := fun _ => fun
  | [d1, d2, d3] => { results := [.lit (.bool false)], args := [d1, d2, d3] }
  | _ => none }
def GraphRunsWrongFalsely : Prop := graphRunsRow.holds Tryz.pinned (OpenSpec.ofChange graphRunsWrong)

/-- 'modelchecklaw39.GraphSame': WHATEVER THE INPUT: true; the input reads as it did. -/
def graphSameSpec : ChangeSpec := { name := "graphSame", fn := fun _ => fun
  | [d1, d2] => { results := [.lit (.bool true)], args := [d1, d2] }
  | _ => none }
def graphSameRow : OpenClaim := { program := "ytaeeaniofljmnaagreatdoor", sum := "be1bca398a8c7e649104a10e2ceb1f6270d46ea512db0ed9aede71e7416e104c", func := "modelcheck/modelchecklaw39.GraphSame", spec := "graphSame", unfollowed := true, recurses := true, named := ["modelcheck/event.rows"], plainKeys := false, apart := false, laid := [("modelcheck/event.rows", laid_modelcheck_event_rows)] }
def GraphSameSaid : Prop := graphSameRow.holds Tryz.pinned (OpenSpec.ofChange graphSameSpec)

/-- ITS FALSE NEIGHBOUR: 'it returns false'. Refute it at one input. -/
def graphSameWrong : ChangeSpec := { name := "graphSame", fn := fun _ => fun
  | [d1, d2] => { results := [.lit (.bool false)], args := [d1, d2] }
  | _ => none }
def GraphSameWrongFalsely : Prop := graphSameRow.holds Tryz.pinned (OpenSpec.ofChange graphSameWrong)

/- THE SECOND FORM. 'bulk': how many values and letters a reading holds, each counted each time it is reached (what is shared counts as often as it is met; a slice's spare places count too). A statement '..UptoSaid' is the law's where the arguments, and the package variables that the reading takes, are together of bulk at most 1048576: NARROWER than '..Said'. Prove '..Said' where nothing that the law and all that it calls make is longer than what came in: it says more and counts as full. Else prove '..UptoSaid'. A law counts once. -/
mutual
def uptoBulk {H : Type} : DataW H → Nat
  | .lit (.string bytes) => bytes.length + 1
  | .lit _ => 1
  | .nil => 1
  | .ptr d => uptoBulk d + 1
  | .slice elems spare => uptoBulkAll elems + uptoBulkAll spare + 1
  | .agg parts => uptoBulkAll parts + 1
  | .iface _ d => uptoBulk d + 1
  | .map entries => uptoBulkEntries entries + 1
  | .held _ => 1
def uptoBulkAll {H : Type} : List (DataW H) → Nat
  | [] => 0
  | d :: r => uptoBulk d + uptoBulkAll r
def uptoBulkEntries {H : Type} : List (Lit × DataW H) → Nat
  | [] => 0
  | x :: r => uptoBulkEntry x + uptoBulkEntries r
def uptoBulkEntry {H : Type} : Lit × DataW H → Nat
  | (.string bytes, d) => bytes.length + uptoBulk d + 1
  | (_, d) => uptoBulk d + 1
 end
def uptoSmall : (H : Type) → List (DataW H) → Bool := fun _ ds => decide (uptoBulkAll ds ≤ 1048576)
def OpenSpec.upto (s : _root_.Go.ChangeSpec) : _root_.Go.OpenSpec := { _root_.Go.OpenSpec.ofChange s with cond := some uptoSmall }

/-- 'modelchecklaw39.GraphDerived', WHERE WHAT IT READS IS OF BULK AT MOST 1048576: true; the input reads as it did. -/
def graphDerivedUptoRow : OpenClaim := { program := "ytaeeaniofljmnaagreatdoor", sum := "be1bca398a8c7e649104a10e2ceb1f6270d46ea512db0ed9aede71e7416e104c", func := "modelcheck/modelchecklaw39.GraphDerived", spec := "graphDerived", unfollowed := true, recurses := true, named := ["modelcheck/event.rows"], plainKeys := false, apart := false, laid := [("modelcheck/event.rows", laid_modelcheck_event_rows)], narrowed := true }
def GraphDerivedUptoSaid : Prop := graphDerivedUptoRow.holds Tryz.pinned (OpenSpec.upto graphDerivedSpec)

/-- 'modelchecklaw39.GraphForms', WHERE WHAT IT READS IS OF BULK AT MOST 1048576: true; the input reads as it did. -/
def graphFormsUptoRow : OpenClaim := { program := "ytaeeaniofljmnaagreatdoor", sum := "be1bca398a8c7e649104a10e2ceb1f6270d46ea512db0ed9aede71e7416e104c", func := "modelcheck/modelchecklaw39.GraphForms", spec := "graphForms", unfollowed := true, recurses := true, named := ["modelcheck/event.rows"], plainKeys := false, apart := false, laid := [("modelcheck/event.rows", laid_modelcheck_event_rows)], narrowed := true }
def GraphFormsUptoSaid : Prop := graphFormsUptoRow.holds Tryz.pinned (OpenSpec.upto graphFormsSpec)

/-- 'modelchecklaw39.GraphOrders', WHERE WHAT IT READS IS OF BULK AT MOST 1048576: true; the input reads as it did. -/
def graphOrdersUptoRow : OpenClaim := { program := "ytaeeaniofljmnaagreatdoor", sum := "be1bca398a8c7e649104a10e2ceb1f6270d46ea512db0ed9aede71e7416e104c", func := "modelcheck/modelchecklaw39.GraphOrders", spec := "graphOrders", unfollowed := true, recurses := true, named := ["modelcheck/event.rows"], plainKeys := false, apart := false, laid := [("modelcheck/event.rows", laid_modelcheck_event_rows)], narrowed := true }
def GraphOrdersUptoSaid : Prop := graphOrdersUptoRow.holds Tryz.pinned (OpenSpec.upto graphOrdersSpec)

/-- 'modelchecklaw39.GraphOf', WHERE WHAT IT READS IS OF BULK AT MOST 1048576: true; the input reads as it did. -/
def graphOfUptoRow : OpenClaim := { program := "ytaeeaniofljmnaagreatdoor", sum := "be1bca398a8c7e649104a10e2ceb1f6270d46ea512db0ed9aede71e7416e104c", func := "modelcheck/modelchecklaw39.GraphOf", spec := "graphOf", unfollowed := true, recurses := true, named := ["modelcheck/event.rows"], plainKeys := false, apart := false, laid := [("modelcheck/event.rows", laid_modelcheck_event_rows)], narrowed := true }
def GraphOfUptoSaid : Prop := graphOfUptoRow.holds Tryz.pinned (OpenSpec.upto graphOfSpec)

/-- 'modelchecklaw39.GraphRuns', WHERE WHAT IT READS IS OF BULK AT MOST 1048576: true; the input reads as it did. -/
def graphRunsUptoRow : OpenClaim := { program := "ytaeeaniofljmnaagreatdoor", sum := "be1bca398a8c7e649104a10e2ceb1f6270d46ea512db0ed9aede71e7416e104c", func := "modelcheck/modelchecklaw39.GraphRuns", spec := "graphRuns", unfollowed := true, recurses := true, named := ["modelcheck/event.rows"], plainKeys := false, apart := false, laid := [("modelcheck/event.rows", laid_modelcheck_event_rows)], narrowed := true }
def GraphRunsUptoSaid : Prop := graphRunsUptoRow.holds Tryz.pinned (OpenSpec.upto graphRunsSpec)

/-- 'modelchecklaw39.GraphSame', WHERE WHAT IT READS IS OF BULK AT MOST 1048576: true; the input reads as it did. -/
def graphSameUptoRow : OpenClaim := { program := "ytaeeaniofljmnaagreatdoor", sum := "be1bca398a8c7e649104a10e2ceb1f6270d46ea512db0ed9aede71e7416e104c", func := "modelcheck/modelchecklaw39.GraphSame", spec := "graphSame", unfollowed := true, recurses := true, named := ["modelcheck/event.rows"], plainKeys := false, apart := false, laid := [("modelcheck/event.rows", laid_modelcheck_event_rows)], narrowed := true }
def GraphSameUptoSaid : Prop := graphSameUptoRow.holds Tryz.pinned (OpenSpec.upto graphSameSpec)

end Rows
end Go.Proofs.YtaeeaniofljmnaaGreatDoor
