/-
  A part of the proof (Ev11).
-/
import Derived.Test.YtbhopcgbdofcjaaDoorEv10
import Derived.Test.YtbhopcgbdofcjaaDoorSx14
namespace Go.Proofs.YtbhopcgbdofcjaaDoor
open Go Go.Proofs.YtbhopcgbdofcjaaDoor.Sx Go.ChangeShapes Go.WideShapes Go.ChangeAt Go.RowKit
theorem laidOut' : laidOutB Tryd.prog = true := by kernel_rfl

/-- A world for the witness: the settled one, the table (block 0) holding what its initialiser lays. -/
noncomputable def laidWorld (os : Os) : World :=
  { World.holding Tryd.prog os ⟨#[], #[], []⟩ with heap := (World.holding Tryd.prog os ⟨#[], #[], []⟩).heap.modify 0 fun
      | .cells _ t frozen => .cells (litV 5 (Rows.laid_modelcheck_event_rows : DataW Unit)).toArray t frozen
      | o => o }
theorem laid_met (os : Os) (args : Array Value) : laidMet Tryd.prog [("modelcheck/event.rows", Rows.laid_modelcheck_event_rows)] ((laidWorld os).forCall (fun _ _ => 0) ⟨#[], args, []⟩).memory :=
  laidMet_of_run' 8 (by kernel_rfl) (by kernel_rfl)

theorem evK : kindsOf Tryd.prog 5 28 = some [some .i64, some .i64, some .i64, some .i64, some .i64, some .i64, some .i64, some .i64, some .i64] := by kernel_rfl

/-- A cell of a number: fits its kind. -/
def fits (n : Int) : Prop := (Lit.int .i64 n).wf = true
def evFits (e : Ev) : Prop := fits e.ag ∧ fits e.ix ∧ fits e.k ∧ fits e.ob ∧ fits e.mu ∧ fits e.en ∧ fits e.od ∧ fits e.rd ∧ fits e.wr
theorem den_ev {ρ : Env} {cs : List Value} (h : cellsK [some .i64, some .i64, some .i64, some .i64, some .i64, some .i64, some .i64, some .i64, some .i64] cs) : ∃ e : Ev, evFits e ∧ Den ρ (evSV e) (.agg cs.toArray) := by
  obtain ⟨a, _, rfl, ha, h⟩ := cellsK_i h
  obtain ⟨b, _, rfl, hb, h⟩ := cellsK_i h
  obtain ⟨c, _, rfl, hc, h⟩ := cellsK_i h
  obtain ⟨d, _, rfl, hd, h⟩ := cellsK_i h
  obtain ⟨e, _, rfl, he, h⟩ := cellsK_i h
  obtain ⟨f, _, rfl, hf, h⟩ := cellsK_i h
  obtain ⟨g, _, rfl, hg, h⟩ := cellsK_i h
  obtain ⟨i, _, rfl, hi, h⟩ := cellsK_i h
  obtain ⟨j, _, rfl, hj, h⟩ := cellsK_i h
  obtain rfl := cellsK_nil h
  exact ⟨⟨a, b, c, d, e, f, g, i, j⟩, ⟨ha, hb, hc, hd, he, hf, hg, hi, hj⟩, Den.agg rfl (DenL.cons (.i _ _) (DenL.cons (.i _ _) (DenL.cons (.i _ _) (DenL.cons (.i _ _) (DenL.cons (.i _ _) (DenL.cons (.i _ _) (DenL.cons (.i _ _) (DenL.cons (.i _ _) (DenL.cons (.i _ _) (DenL.nil ρ)))))))))).2⟩

theorem open_ev {H : Type} {enc : TypeId × Value → H} {w : World} {base : Nat} {sp : Nat → Bool} {held : Bool} {r : Reach} {b0 : Nat} {v : Value} {d : DataW H} {p : List MemPlace} {ρ : Env} (hv : Value.okWide Tryd.prog w r b0 28 v) (h : DataW.Trod enc Tryd.prog w base sp held 28 v d p) :
    ∃ e : Ev, evFits e ∧ Den ρ (evSV e) v := by
  obtain ⟨cs, rfl, hk, _⟩ := open_plain (Tryd.underlying28) evK hv h
  exact den_ev hk
end Go.Proofs.YtbhopcgbdofcjaaDoor
