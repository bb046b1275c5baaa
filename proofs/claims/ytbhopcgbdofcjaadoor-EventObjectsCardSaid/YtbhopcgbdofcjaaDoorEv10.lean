/-
  A part of the proof (Ev10).
-/
import Derived.Test.YtbhopcgbdofcjaaDoorEv9
import Derived.Test.YtbhopcgbdofcjaaDoorSx13
import Derived.Test.YtbhopcgbdofcjaaDoorCards
import Derived.Test.YtbhopcgbdofcjaaDoorTie
import Derived.WalkKit
import Derived.ProofKit
import Derived.OpenShut
import Derived.Deep.DeepHandedRow
import Derived.Lib.LaidTab
namespace Go.Proofs.YtbhopcgbdofcjaaDoor
open Go Go.Proofs.YtbhopcgbdofcjaaDoor.Sx Go.ChangeShapes Go.WideShapes Go.ChangeAt Go.RowKit
theorem own' : ownKnob Tryd.prog.godebug = none := by kernel_rfl
theorem gTab : Tryd.prog.globalNamed "modelcheck/event.rows" = some 0 := by kernel_rfl
theorem gTabType : (Tryd.prog.globals[0]?).map (·.type) = some 43 := by kernel_rfl
theorem plain43 : plainTy Tryd.prog 5 43 = true := by kernel_rfl
def tblCols : List Col := [.int .i64 (pickI tMostL), .bool (pickB tOrdL), .int .i64 (pickI tLowL), .int .i64 (pickI tHighL), .bool (pickB tWroteL), .int .i64 (pickI tLeastL), .int .i64 (pickI tAccL), .bool (pickB tWriteL)]
theorem tblChk : tabChk (litV 5 (Rows.laid_modelcheck_event_rows : DataW Unit)) 8 tblCols 17 = true := by kernel_rfl
theorem laid_br {W : World} (h : laidMetH Tryd.prog [("modelcheck/event.rows", Rows.laid_modelcheck_event_rows)] W) : BR W.heap.size (fun i => if i = 0 then some (some ⟨0, 0, none⟩, 0) else none) W 0 tbl := by
  have h0 : laidMet Tryd.prog [("modelcheck/event.rows", Rows.laid_modelcheck_event_rows)] W := h
  have hv := laid_head gTab gTabType plain43 h0
  have hc : ∀ i, W.cell? ⟨0, i, none⟩ = (litV 5 (Rows.laid_modelcheck_event_rows : DataW Unit))[i]? := fun i => by
    have := World.var?_cell gTab hv i
    simpa using this
  refine ⟨some ⟨0, 0, none⟩, 0, rfl, fun _ => ⟨⟨0, 0, none⟩, rfl, ?_, fun j hj k col hk => ?_⟩⟩
  · obtain ⟨v, hv', _⟩ := tabChk_get tblChk 0 (by omega) 0 _ rfl
    have := hc (0 * 8 + 0)
    rw [hv'] at this
    have := World.block_lt_of_cell? W _ this
    exact this
  · obtain ⟨v, hv', hd⟩ := tabChk_get tblChk j hj k col hk
    refine ⟨v, ?_, hd⟩
    have := hc (j * 8 + k)
    rw [hv'] at this
    simpa [Addr.add_lit] using this
/-- A run of a function that reads the table only. -/
theorem law_run {W : World} {fid : FuncId} {fn : Func} {vs : List SV} {xs : List Value} {loops : List (Nat × PLoop)} {calls : Calling} (hT : TabOk Tryd.prog (tabG calls loops)) (hf : Tryd.prog.funcs[fid]? = some fn) (h : laidMetH Tryd.prog [("modelcheck/event.rows", Rows.laid_modelcheck_event_rows)] W)
    (hd : DenL (fun i => if i = 0 then some (some ⟨0, 0, none⟩, 0) else none) vs xs) (hv : fnVc (tabG calls loops) fn vs [tbl] (plainIs .tt)) : Calls Tryd.prog fid xs.toArray W fun e W' => e = .returned (.bool true) ∧ Below W.heap.size W W' := by
  have hbr := laid_br h
  refine Calls.mono (fn_calls (B := W.heap.size) (w0 := W) hT hf hv ⟨rfl, Below.refl _ _, fun r k hk hne => ?_, fun r hne => ?_, fun r s k l a b c d hk hl ho => ?_⟩ (fun g r hg => ?_) hd) fun e W' ⟨v, ρ', m', sv, he, hdv, hm, hp⟩ => ⟨?_, hm.below⟩
  · cases r with
    | zero => simp at hk; subst hk; exact hbr
    | succ r => simp at hk
  · by_cases e : r = 0
    · subst e; simp
    · simp [e] at hne
  · cases r with
    | zero => simp at hk; subst hk; simp [tbl, ownOf] at ho
    | succ r => simp at hk
  · cases g with
    | zero => cases hg; exact ⟨0, rfl⟩
    | succ g => cases hg
  · rw [he, (veq_den _ _ _ hp hdv).tt_inv]
end Go.Proofs.YtbhopcgbdofcjaaDoor
