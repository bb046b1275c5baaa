/-
  No cell of these rows narrows 'for every input' (looked for: loops, veiled, ifaces, maps, wideKeys, modest, calm, conditions, laid).
  DERIVED. THE GIVEN ROWS OF THIS SEAT. 9 by the template 'for every input the law returns true; each argument reads behind the call as it read before'; 0 by the template 'total and deterministic' (their statements: YtiokmglajigngaaTotals.lean).
  GIVEN WITH THE SEED: the statements are not yours to turn. If you find one false, say at which input.
  Laid BY PROGRAM, IN A SANDBOX (cutbox-rows.mjs): the forced cells as the released guide's own fill.sh prints them over the translation 1230cf520a6be9e4… (all of the seat's roots in one cut). By AI agents, Wed Nov 11 2026. No macro, syntax, notation, axiom, sorry.
-/
import Derived.Test.YtiokmglajigngaaChecked
import GoSem.Claim
import GoSem.ClaimJoined
import GoSem.ClaimMapViews
import Derived.JoinedTies
import Derived.KernelRfl
namespace Go.Proofs.Ytiokmglajigngaa
/- THE CELL 'sum', in the pinned program and in every row, IS THE sha256 OF THE DUMP (.gsa) THAT YtiokmglajigngaaProg.lean LOADS. Nothing in Lean hashes anything: it is a label: what it is worth is what the hold of that sum in a sandbox is worth. -/
noncomputable def Try.pinned : Pinned := { name := "ytiokmglajigngaa", sum := "1230cf520a6be9e48225fafd61950880bd89b0c954503a0d88c43be8a2b79430", checked := Try.checked }
namespace Rows
def none {H : Type} : Left H := { results := [], args := [] }

/-- 'modelchecklaw05.LinextIs': WHATEVER THE INPUT: true; the input reads as it did. -/
def linextIsSpec : ChangeSpec := { name := "linextIs", fn := fun _ => fun
  | [d1, d2] => { results := [.lit (.bool true)], args := [d1, d2] }
  | _ => none }
def linextIsRow : OpenClaim := { program := "ytiokmglajigngaa", sum := "1230cf520a6be9e48225fafd61950880bd89b0c954503a0d88c43be8a2b79430", func := "modelcheck/modelchecklaw05.LinextIs", spec := "linextIs", unfollowed := true, recurses := true, plainKeys := false, apart := false }
def LinextIsSaid : Prop := linextIsRow.holds Try.pinned (OpenSpec.ofChange linextIsSpec)

/-- ITS FALSE NEIGHBOUR: 'it returns false'. Refute it at one input. -/
def linextIsWrong : ChangeSpec := { name := "linextIs", fn := fun _ => fun
  | [d1, d2] => { results := [.lit (.bool false)], args := [d1, d2] }
  | _ => none }
def LinextIsWrongFalsely : Prop := linextIsRow.holds Try.pinned (OpenSpec.ofChange linextIsWrong)

/-- 'modelchecklaw05.LinextAll': WHATEVER THE INPUT: true; the input reads as it did. -/
def linextAllSpec : ChangeSpec := { name := "linextAll", fn := fun _ => fun
  | [d1, d2] => { results := [.lit (.bool true)], args := [d1, d2] }
  | _ => none }
def linextAllRow : OpenClaim := { program := "ytiokmglajigngaa", sum := "1230cf520a6be9e48225fafd61950880bd89b0c954503a0d88c43be8a2b79430", func := "modelcheck/modelchecklaw05.LinextAll", spec := "linextAll", unfollowed := true, recurses := true, plainKeys := false, apart := false }
def LinextAllSaid : Prop := linextAllRow.holds Try.pinned (OpenSpec.ofChange linextAllSpec)

/-- ITS FALSE NEIGHBOUR: 'it returns false'. Refute it at one input. -/
def linextAllWrong : ChangeSpec := { name := "linextAll", fn := fun _ => fun
  | [d1, d2] => { results := [.lit (.bool false)], args := [d1, d2] }
  | _ => none }
def LinextAllWrongFalsely : Prop := linextAllRow.holds Try.pinned (OpenSpec.ofChange linextAllWrong)

/-- 'modelchecklaw05.LinextCount': WHATEVER THE INPUT: true; the input reads as it did. -/
def linextCountSpec : ChangeSpec := { name := "linextCount", fn := fun _ => fun
  | [d] => { results := [.lit (.bool true)], args := [d] }
  | _ => none }
def linextCountRow : OpenClaim := { program := "ytiokmglajigngaa", sum := "1230cf520a6be9e48225fafd61950880bd89b0c954503a0d88c43be8a2b79430", func := "modelcheck/modelchecklaw05.LinextCount", spec := "linextCount", unfollowed := true, recurses := true, plainKeys := false, apart := false }
def LinextCountSaid : Prop := linextCountRow.holds Try.pinned (OpenSpec.ofChange linextCountSpec)

/-- ITS FALSE NEIGHBOUR: 'it returns false'. Refute it at one input. -/
def linextCountWrong : ChangeSpec := { name := "linextCount", fn := fun _ => fun
  | [d] => { results := [.lit (.bool false)], args := [d] }
  | _ => none }
def LinextCountWrongFalsely : Prop := linextCountRow.holds Try.pinned (OpenSpec.ofChange linextCountWrong)

/-- 'modelchecklaw05.LinextChains': WHATEVER THE INPUT: true; the input reads as it did. -/
def linextChainsSpec : ChangeSpec := { name := "linextChains", fn := fun _ => fun
  | [d1, d2] => { results := [.lit (.bool true)], args := [d1, d2] }
  | _ => none }
def linextChainsRow : OpenClaim := { program := "ytiokmglajigngaa", sum := "1230cf520a6be9e48225fafd61950880bd89b0c954503a0d88c43be8a2b79430", func := "modelcheck/modelchecklaw05.LinextChains", spec := "linextChains", unfollowed := true, recurses := true, plainKeys := false, apart := false }
def LinextChainsSaid : Prop := linextChainsRow.holds Try.pinned (OpenSpec.ofChange linextChainsSpec)

/-- ITS FALSE NEIGHBOUR: 'it returns false'. Refute it at one input. -/
def linextChainsWrong : ChangeSpec := { name := "linextChains", fn := fun _ => fun
  | [d1, d2] => { results := [.lit (.bool false)], args := [d1, d2] }
  | _ => none }
def LinextChainsWrongFalsely : Prop := linextChainsRow.holds Try.pinned (OpenSpec.ofChange linextChainsWrong)

/-- 'modelchecklaw05.LinextTriples': WHATEVER THE INPUT: true; the input reads as it did. -/
def linextTriplesSpec : ChangeSpec := { name := "linextTriples", fn := fun _ => fun
  | [d1, d2, d3] => { results := [.lit (.bool true)], args := [d1, d2, d3] }
  | _ => none }
def linextTriplesRow : OpenClaim := { program := "ytiokmglajigngaa", sum := "1230cf520a6be9e48225fafd61950880bd89b0c954503a0d88c43be8a2b79430", func := "modelcheck/modelchecklaw05.LinextTriples", spec := "linextTriples", unfollowed := true, recurses := true, plainKeys := false, apart := false }
def LinextTriplesSaid : Prop := linextTriplesRow.holds Try.pinned (OpenSpec.ofChange linextTriplesSpec)

/-- ITS FALSE NEIGHBOUR: 'it returns false'. Refute it at one input. -/
def linextTriplesWrong : ChangeSpec := { name := "linextTriples", fn := fun _ => fun
  | [d1, d2, d3] => { results := [.lit (.bool false)], args := [d1, d2, d3] }
  | _ => none }
def LinextTriplesWrongFalsely : Prop := linextTriplesRow.holds Try.pinned (OpenSpec.ofChange linextTriplesWrong)

/-- 'modelchecklaw05.LinextPairs': WHATEVER THE INPUT: true; the input reads as it did. -/
def linextPairsSpec : ChangeSpec := { name := "linextPairs", fn := fun _ => fun
  | [d1, d2, d3] => { results := [.lit (.bool true)], args := [d1, d2, d3] }
  | _ => none }
def linextPairsRow : OpenClaim := { program := "ytiokmglajigngaa", sum := "1230cf520a6be9e48225fafd61950880bd89b0c954503a0d88c43be8a2b79430", func := "modelcheck/modelchecklaw05.LinextPairs", spec := "linextPairs", unfollowed := true, recurses := true, plainKeys := false, apart := false }
def LinextPairsSaid : Prop := linextPairsRow.holds Try.pinned (OpenSpec.ofChange linextPairsSpec)

/-- ITS FALSE NEIGHBOUR: 'it returns false'. Refute it at one input. -/
def linextPairsWrong : ChangeSpec := { name := "linextPairs", fn := fun _ => fun
  | [d1, d2, d3] => { results := [.lit (.bool false)], args := [d1, d2, d3] }
  | _ => none }
def LinextPairsWrongFalsely : Prop := linextPairsRow.holds Try.pinned (OpenSpec.ofChange linextPairsWrong)

/-- 'modelchecklaw05.LinextPlaces': WHATEVER THE INPUT: true; the input reads as it did. -/
def linextPlacesSpec : ChangeSpec := { name := "linextPlaces", fn := fun _ => fun
  | [d1, d2, d3] => { results := [.lit (.bool true)], args := [d1, d2, d3] }
  | _ => none }
def linextPlacesRow : OpenClaim := { program := "ytiokmglajigngaa", sum := "1230cf520a6be9e48225fafd61950880bd89b0c954503a0d88c43be8a2b79430", func := "modelcheck/modelchecklaw05.LinextPlaces", spec := "linextPlaces", unfollowed := true, recurses := true, plainKeys := false, apart := false }
def LinextPlacesSaid : Prop := linextPlacesRow.holds Try.pinned (OpenSpec.ofChange linextPlacesSpec)

/-- ITS FALSE NEIGHBOUR: 'it returns false'. Refute it at one input. -/
def linextPlacesWrong : ChangeSpec := { name := "linextPlaces", fn := fun _ => fun
  | [d1, d2, d3] => { results := [.lit (.bool false)], args := [d1, d2, d3] }
  | _ => none }
def LinextPlacesWrongFalsely : Prop := linextPlacesRow.holds Try.pinned (OpenSpec.ofChange linextPlacesWrong)

/-- 'modelchecklaw05.LinextRank': WHATEVER THE INPUT: true; the input reads as it did. -/
def linextRankSpec : ChangeSpec := { name := "linextRank", fn := fun _ => fun
  | [d] => { results := [.lit (.bool true)], args := [d] }
  | _ => none }
def linextRankRow : OpenClaim := { program := "ytiokmglajigngaa", sum := "1230cf520a6be9e48225fafd61950880bd89b0c954503a0d88c43be8a2b79430", func := "modelcheck/modelchecklaw05.LinextRank", spec := "linextRank", unfollowed := true, recurses := true, plainKeys := false, apart := false }
def LinextRankSaid : Prop := linextRankRow.holds Try.pinned (OpenSpec.ofChange linextRankSpec)

/-- ITS FALSE NEIGHBOUR: 'it returns false'. Refute it at one input. -/
def linextRankWrong : ChangeSpec := { name := "linextRank", fn := fun _ => fun
  | [d] => { results := [.lit (.bool false)], args := [d] }
  | _ => none }
def LinextRankWrongFalsely : Prop := linextRankRow.holds Try.pinned (OpenSpec.ofChange linextRankWrong)

/-- 'modelchecklaw05.LinextFree': WHATEVER THE INPUT: true; the input reads as it did. -/
def linextFreeSpec : ChangeSpec := { name := "linextFree", fn := fun _ => fun
  | [d] => { results := [.lit (.bool true)], args := [d] }
  | _ => none }
def linextFreeRow : OpenClaim := { program := "ytiokmglajigngaa", sum := "1230cf520a6be9e48225fafd61950880bd89b0c954503a0d88c43be8a2b79430", func := "modelcheck/modelchecklaw05.LinextFree", spec := "linextFree", unfollowed := true, recurses := true, plainKeys := false, apart := false }
def LinextFreeSaid : Prop := linextFreeRow.holds Try.pinned (OpenSpec.ofChange linextFreeSpec)

/-- ITS FALSE NEIGHBOUR: 'it returns false'. Refute it at one input. -/
def linextFreeWrong : ChangeSpec := { name := "linextFree", fn := fun _ => fun
  | [d] => { results := [.lit (.bool false)], args := [d] }
  | _ => none }
def LinextFreeWrongFalsely : Prop := linextFreeRow.holds Try.pinned (OpenSpec.ofChange linextFreeWrong)

/- THE SECOND FORM. 'bulk': how many values and letters a reading holds, each counted each time it is reached (what is shared counts as often as it is met; a slice's spare places count too). A statement '..UptoSaid' is the law's where the arguments, and the package variables that the reading takes, are together of bulk at most 1048576: NARROWER than '..Said'. Prove '..Said' where nothing that the law and all that it calls make is longer than what came in: it says more and counts as full. Else prove '..UptoSaid'. A law counts once. -/
mutual
def uptoBulk {H : Type} : DataW H → Nat
  | .lit (.string bytes) => bytes.length + 1
  | .lit _ => 1
  | .nil => 1
  | .ptr d => uptoBulk d + 1
  | .slice elems spare => uptoBulkAll elems + uptoBulkAll spare + 1
  | .agg parts => uptoBulkAll parts + 1
  | .iface _ d => uptoBulk d + 1
  | .map entries => uptoBulkEntries entries + 1
  | .held _ => 1
def uptoBulkAll {H : Type} : List (DataW H) → Nat
  | [] => 0
  | d :: r => uptoBulk d + uptoBulkAll r
def uptoBulkEntries {H : Type} : List (Lit × DataW H) → Nat
  | [] => 0
  | x :: r => uptoBulkEntry x + uptoBulkEntries r
def uptoBulkEntry {H : Type} : Lit × DataW H → Nat
  | (.string bytes, d) => bytes.length + uptoBulk d + 1
  | (_, d) => uptoBulk d + 1
 end
def uptoSmall : (H : Type) → List (DataW H) → Bool := fun _ ds => decide (uptoBulkAll ds ≤ 1048576)
def OpenSpec.upto (s : _root_.Go.ChangeSpec) : _root_.Go.OpenSpec := { _root_.Go.OpenSpec.ofChange s with cond := some uptoSmall }

/-- 'modelchecklaw05.LinextIs', WHERE WHAT IT READS IS OF BULK AT MOST 1048576: true; the input reads as it did. -/
def linextIsUptoRow : OpenClaim := { program := "ytiokmglajigngaa", sum := "1230cf520a6be9e48225fafd61950880bd89b0c954503a0d88c43be8a2b79430", func := "modelcheck/modelchecklaw05.LinextIs", spec := "linextIs", unfollowed := true, recurses := true, plainKeys := false, apart := false, narrowed := true }
def LinextIsUptoSaid : Prop := linextIsUptoRow.holds Try.pinned (OpenSpec.upto linextIsSpec)

/-- 'modelchecklaw05.LinextAll', WHERE WHAT IT READS IS OF BULK AT MOST 1048576: true; the input reads as it did. -/
def linextAllUptoRow : OpenClaim := { program := "ytiokmglajigngaa", sum := "1230cf520a6be9e48225fafd61950880bd89b0c954503a0d88c43be8a2b79430", func := "modelcheck/modelchecklaw05.LinextAll", spec := "linextAll", unfollowed := true, recurses := true, plainKeys := false, apart := false, narrowed := true }
def LinextAllUptoSaid : Prop := linextAllUptoRow.holds Try.pinned (OpenSpec.upto linextAllSpec)

/-- 'modelchecklaw05.LinextCount', WHERE WHAT IT READS IS OF BULK AT MOST 1048576: true; the input reads as it did. -/
def linextCountUptoRow : OpenClaim := { program := "ytiokmglajigngaa", sum := "1230cf520a6be9e48225fafd61950880bd89b0c954503a0d88c43be8a2b79430", func := "modelcheck/modelchecklaw05.LinextCount", spec := "linextCount", unfollowed := true, recurses := true, plainKeys := false, apart := false, narrowed := true }
def LinextCountUptoSaid : Prop := linextCountUptoRow.holds Try.pinned (OpenSpec.upto linextCountSpec)

/-- 'modelchecklaw05.LinextChains', WHERE WHAT IT READS IS OF BULK AT MOST 1048576: true; the input reads as it did. -/
def linextChainsUptoRow : OpenClaim := { program := "ytiokmglajigngaa", sum := "1230cf520a6be9e48225fafd61950880bd89b0c954503a0d88c43be8a2b79430", func := "modelcheck/modelchecklaw05.LinextChains", spec := "linextChains", unfollowed := true, recurses := true, plainKeys := false, apart := false, narrowed := true }
def LinextChainsUptoSaid : Prop := linextChainsUptoRow.holds Try.pinned (OpenSpec.upto linextChainsSpec)

/-- 'modelchecklaw05.LinextTriples', WHERE WHAT IT READS IS OF BULK AT MOST 1048576: true; the input reads as it did. -/
def linextTriplesUptoRow : OpenClaim := { program := "ytiokmglajigngaa", sum := "1230cf520a6be9e48225fafd61950880bd89b0c954503a0d88c43be8a2b79430", func := "modelcheck/modelchecklaw05.LinextTriples", spec := "linextTriples", unfollowed := true, recurses := true, plainKeys := false, apart := false, narrowed := true }
def LinextTriplesUptoSaid : Prop := linextTriplesUptoRow.holds Try.pinned (OpenSpec.upto linextTriplesSpec)

/-- 'modelchecklaw05.LinextPairs', WHERE WHAT IT READS IS OF BULK AT MOST 1048576: true; the input reads as it did. -/
def linextPairsUptoRow : OpenClaim := { program := "ytiokmglajigngaa", sum := "1230cf520a6be9e48225fafd61950880bd89b0c954503a0d88c43be8a2b79430", func := "modelcheck/modelchecklaw05.LinextPairs", spec := "linextPairs", unfollowed := true, recurses := true, plainKeys := false, apart := false, narrowed := true }
def LinextPairsUptoSaid : Prop := linextPairsUptoRow.holds Try.pinned (OpenSpec.upto linextPairsSpec)

/-- 'modelchecklaw05.LinextPlaces', WHERE WHAT IT READS IS OF BULK AT MOST 1048576: true; the input reads as it did. -/
def linextPlacesUptoRow : OpenClaim := { program := "ytiokmglajigngaa", sum := "1230cf520a6be9e48225fafd61950880bd89b0c954503a0d88c43be8a2b79430", func := "modelcheck/modelchecklaw05.LinextPlaces", spec := "linextPlaces", unfollowed := true, recurses := true, plainKeys := false, apart := false, narrowed := true }
def LinextPlacesUptoSaid : Prop := linextPlacesUptoRow.holds Try.pinned (OpenSpec.upto linextPlacesSpec)

/-- 'modelchecklaw05.LinextRank', WHERE WHAT IT READS IS OF BULK AT MOST 1048576: true; the input reads as it did. -/
def linextRankUptoRow : OpenClaim := { program := "ytiokmglajigngaa", sum := "1230cf520a6be9e48225fafd61950880bd89b0c954503a0d88c43be8a2b79430", func := "modelcheck/modelchecklaw05.LinextRank", spec := "linextRank", unfollowed := true, recurses := true, plainKeys := false, apart := false, narrowed := true }
def LinextRankUptoSaid : Prop := linextRankUptoRow.holds Try.pinned (OpenSpec.upto linextRankSpec)

/-- 'modelchecklaw05.LinextFree', WHERE WHAT IT READS IS OF BULK AT MOST 1048576: true; the input reads as it did. -/
def linextFreeUptoRow : OpenClaim := { program := "ytiokmglajigngaa", sum := "1230cf520a6be9e48225fafd61950880bd89b0c954503a0d88c43be8a2b79430", func := "modelcheck/modelchecklaw05.LinextFree", spec := "linextFree", unfollowed := true, recurses := true, plainKeys := false, apart := false, narrowed := true }
def LinextFreeUptoSaid : Prop := linextFreeUptoRow.holds Try.pinned (OpenSpec.upto linextFreeSpec)

end Rows
end Go.Proofs.Ytiokmglajigngaa
