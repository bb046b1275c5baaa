/-
  A part of the proof (ULaw).
-/
import Derived.Test.YtiokmglajigngaaUOpen
namespace Go.Proofs.Ytiokmglajigngaa
open Go Go.Proofs.Ytiokmglajigngaa.Sx Go.ChangeShapes Go.WideShapes Go.ChangeAt Go.RowKit
set_option maxRecDepth 100000
set_option linter.unusedSimpArgs false
set_option linter.unusedVariables false

/-- A law's run on relations: ys are what the slices hold in the world, m0 what they are. -/
theorem law_goN {T : Tab} {W : World} {fid : FuncId} {fn : Func} {m0 : List MBlk} {vs : List SV} {xs : List Value} (ys : List (Option Addr × Nat)) (hT : TabOk Try.prog T) (hg : T.globals = []) (hpin : T.pins = []) (hf : Try.prog.funcs[fid]? = some fn)
    (hlen : ys.length = m0.length) (hok : memOk m0 = true) (hbr : ∀ i k, m0[i]? = some k → BR (argEnv W (fun i => ys[i]?)) W i k) (hd : DenL (argEnv W (fun i => ys[i]?)) vs xs) (hv : fnVc T fn vs m0 (plainIs .tt)) :
    Calls Try.prog fid xs.toArray W fun e W' => e = .returned (.bool true) ∧ Below W.heap.size W W' :=
  law_go hT hg hpin hf (fun i hi => by
    have : i < ys.length := by
      rcases Nat.lt_or_ge i ys.length with h | h
      · exact h
      · exact absurd (List.getElem?_eq_none h) hi
    omega) hok (fun i k hk _ => hbr i k hk) hd hv
/-- The witness's world. -/
noncomputable def w0 (os : Os) : World := World.holding Try.prog os ⟨#[], #[], []⟩
end Go.Proofs.Ytiokmglajigngaa
