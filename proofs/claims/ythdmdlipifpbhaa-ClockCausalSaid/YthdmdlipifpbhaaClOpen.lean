/-
  The clock layer: arguments that are clocks or slices of numbers.
-/
import Derived.Test.YthdmdlipifpbhaaClRows
import Derived.Test.YthdmdlipifpbhaaSx15
import Derived.WalkKit
import Derived.ProofKit
import Derived.OpenShut
import Derived.Deep.DeepHandedRow
namespace Go.Proofs.Ythdmdlipifpbhaa
open Go Go.Proofs.Ythdmdlipifpbhaa.Sx Go.ChangeShapes Go.WideShapes Go.ChangeAt Go.RowKit
theorem laidOut' : laidOutB Try.prog = true := by kernel_rfl
theorem own' : ownKnob Try.prog.godebug = none := by kernel_rfl
def cellI (w : World) (a : Addr) : Int := match w.cell? a with
  | some (.int _ n) => n
  | _ => 0
theorem cellI_of {w : World} {a : Addr} {u : Value} {k : IntKind} (h : w.cell? a = some u) (hk : cellK (some k) u) : w.cell? a = some (.int k (cellI w a)) := by
  obtain ⟨n, rfl, _⟩ := hk
  simp only [cellI, h]
theorem open_clk {H : Type} {enc : TypeId × Value → H} {w : World} {base : Nat} {sp : Nat → Bool} {held : Bool} {r : Reach} {b0 : Nat} {v : Value} {d : DataW H} {p : List MemPlace} (hv : Value.okWide Try.prog w r b0 23 v) (h : DataW.Trod enc Try.prog w base sp held 23 v d p) :
    ∃ (l : List Tk) (y : Option Addr × Nat), ∀ (E : Nat → Option (Option Addr × Nat)) (i : Nat), E i = some y → BR (argEnv w E) w i (clkArr l) ∧ Den (argEnv w E) (.sl i l.length) v := by
  obtain ⟨A, n, c, rfl, hnc, _, hc⟩ := open_slice (f := 5) (ks := [some .i64, some .i64]) (t := 23) (e := 27) (by kernel_rfl) (by kernel_rfl) (by kernel_rfl) (by simp) hv h
  cases A with
  | none =>
    have h0 : n = 0 := by
      cases n with
      | zero => rfl
      | succ n => obtain ⟨a, ha, _⟩ := hc (Nat.succ_pos n); cases ha
    subst h0
    exact ⟨[], (none, c), fun E i hE => ⟨⟨none, c, hE, hnc, fun h => absurd h (Nat.lt_irrefl _)⟩, .sl hE (fun h => absurd h (Nat.lt_irrefl _))⟩⟩
  | some a =>
    refine ⟨mkL n (fun j => cellI w (a.add (j * 2 + 0))) (fun j => cellI w (a.add (j * 2 + 1))), (some a, c), fun E i hE => ⟨⟨some a, c, hE, by rw [mkL_len]; exact hnc, fun hn => ?_⟩, by rw [mkL_len]; exact .sl hE (fun _ => by simp)⟩⟩
    rw [mkL_len] at hn
    obtain ⟨a', ha, hlt, hcell⟩ := hc hn
    simp only [Option.some.injEq] at ha
    subst ha
    refine ⟨a, rfl, hlt, fun j hj k col hcol => ?_⟩
    rw [mkL_len] at hj
    have hkk := (List.getElem?_eq_some_iff.1 hcol).1
    match k, hcol with
    | 0, hcol =>
      simp [clkCols] at hcol
      subst hcol
      obtain ⟨u, hu, hk⟩ := hcell j hj 0 (some .i64) rfl
      refine ⟨_, cellI_of hu hk, ?_⟩
      simp only [colDen, agF, nth_mkL hj]
      rfl
    | 1, hcol =>
      simp [clkCols] at hcol
      subst hcol
      obtain ⟨u, hu, hk⟩ := hcell j hj 1 (some .i64) rfl
      refine ⟨_, cellI_of hu hk, ?_⟩
      simp only [colDen, ctF, nth_mkL hj]
      rfl
    | k + 2, hcol => simp [clkCols] at hcol
theorem open_ints' {H : Type} {enc : TypeId × Value → H} {w : World} {base : Nat} {sp : Nat → Bool} {held : Bool} {r : Reach} {b0 : Nat} {v : Value} {d : DataW H} {p : List MemPlace} (hv : Value.okWide Try.prog w r b0 33 v) (h : DataW.Trod enc Try.prog w base sp held 33 v d p) :
    ∃ (l : List Int) (y : Option Addr × Nat), (∀ x ∈ l, -9223372036854775808 ≤ x ∧ x ≤ 9223372036854775807) ∧ ∀ (E : Nat → Option (Option Addr × Nat)) (i : Nat), E i = some y → BR (argEnv w E) w i (intArr l) ∧ Den (argEnv w E) (.sl i l.length) v := by
  obtain ⟨A, n, c, rfl, hnc, _, hc⟩ := open_slice (f := 5) (ks := [some .i64]) (t := 33) (e := 3) (by kernel_rfl) (by kernel_rfl) (by kernel_rfl) (by simp) hv h
  cases A with
  | none =>
    have h0 : n = 0 := by
      cases n with
      | zero => rfl
      | succ n => obtain ⟨a, ha, _⟩ := hc (Nat.succ_pos n); cases ha
    subst h0
    exact ⟨[], (none, c), (fun x hx => by cases hx), fun E i hE => ⟨⟨none, c, hE, hnc, fun h => absurd h (Nat.lt_irrefl _)⟩, .sl hE (fun h => absurd h (Nat.lt_irrefl _))⟩⟩
  | some a =>
    refine ⟨mkI n (fun j => cellI w (a.add (j * 1 + 0))), (some a, c), fun x hx => ?_, fun E i hE => ⟨⟨some a, c, hE, by rw [mkI_len]; exact hnc, fun hn => ?_⟩, by rw [mkI_len]; exact .sl hE (fun _ => by simp)⟩⟩
    · obtain ⟨j, hj, rfl⟩ := List.getElem_of_mem hx
      have hj' : j < n := by simpa using hj
      obtain ⟨a', ha, hlt, hcell⟩ := hc (by omega)
      simp only [Option.some.injEq] at ha
      subst ha
      obtain ⟨u, hu, m, rfl, hw⟩ := hcell j hj' 0 (some .i64) rfl
      rw [← inF_get _ _ hj, in_mkI hj']
      have hu' : w.cell? (a.add (j * 1 + 0)) = some (.int .i64 m) := hu
      simp only [cellI, hu']
      simp only [Lit.wf, Bool.and_eq_true, decide_eq_true_eq] at hw
      exact hw
    · rw [mkI_len] at hn
      obtain ⟨a', ha, hlt, hcell⟩ := hc hn
      simp only [Option.some.injEq] at ha
      subst ha
      refine ⟨a, rfl, hlt, fun j hj k col hcol => ?_⟩
      rw [mkI_len] at hj
      match k, hcol with
      | 0, hcol =>
        simp at hcol
        subst hcol
        obtain ⟨u, hu, hk⟩ := hcell j hj 0 (some .i64) rfl
        refine ⟨_, cellI_of hu hk, ?_⟩
        simp only [colDen, in_mkI hj, List.length_singleton, Nat.mul_one, Nat.add_zero]
      | k + 1, hcol => simp at hcol
end Go.Proofs.Ythdmdlipifpbhaa
