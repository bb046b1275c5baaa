/-
  For every input the law LinextCount (modelchecklaw05) returns true, and the input reads behind the call as it did before: Downsets and Count return what the reference returns, numbers and errors, for every relation on at most 8 numbers with at most 60 pairs.
  Conditions: none.
-/
import Derived.Test.YtiokmglajigngaaULaw
import Derived.Test.YtiokmglajigngaaU40
namespace Go.Proofs.Ytiokmglajigngaa
open Go Go.Proofs.Ytiokmglajigngaa.Sx Go.ChangeShapes Go.WideShapes Go.ChangeAt Go.RowKit
set_option maxRecDepth 100000
set_option linter.unusedSimpArgs false
set_option linter.unusedVariables false
namespace LinextCount
theorem contract (H : Type) (enc : TypeId × Value → H) (W : World) (base : Nat) (args : Array Value) (ds gs : List (DataW H)) (before : List MemPlace)
    (hval : ∀ (j : Nat) t v, Try.f5.params[j]? = some t → args[j]? = some v → Value.okWide Try.prog W .any base t v)
    (hW : DataW.Whole enc Try.prog Try.f5.params.toList Rows.linextCountSpec.vars false W args.toList ds gs before) :
    Calls Try.prog 5 args W fun e W' => ∃ v, e = .returned v ∧ Rows.linextCountSpec.post enc Try.prog Try.f5 false true false false W args v W' := by
  have hW' := hW
  obtain ⟨p, q, hA, hV, hb, hfz, hnd⟩ := hW
  rw [Try.params5] at hA hval
  obtain ⟨v0, vs0, d0, ds0, p0, q0, hargs, rfl, rfl, h0, r0⟩ := trodAll_cons hA
  obtain ⟨rfl, rfl, rfl⟩ := trodAll_nil r0
  obtain rfl : args = #[v0] := by cases args; simp_all
  obtain ⟨rfl, rfl⟩ := trodVars_none hV
  obtain ⟨N0, l0, y0, z0⟩ := open_rel (hval 0 _ _ rfl rfl) h0
  let ys : List (Option Addr × Nat) := [y0]
  let E : Nat → Option (Option Addr × Nat) := fun i => ys[i]?
  have hbr : ∀ i k, ([arP l0] : List MBlk)[i]? = some k → BR (argEnv W E) W i k := fun i k hk => by
    match i, hk with
    | 0, hk => simp only [List.getElem?_cons_succ, List.getElem?_cons_zero, Option.some.injEq] at hk; subst hk; exact (z0 E 0 rfl).1
    | i + 1, hk => simp at hk
  have hden : DenL (argEnv W E) [rlV N0 0 l0] [v0] := DenL.cons (z0 E 0 rfl).2 (DenL.nil _)
  refine (law_goN ys (T := tab [kFew [], kCnt [], kDws [], kCnR [], kDwR [], kAwk []] []) (tabOk (loops := []) (mOne (n12 _) (mOne (n24 _) (mOne (n22 _) (mOne (n25 _) (mOne (n23 _) (mOne (n13 _) mNil))))))) rfl rfl Try.func5 rfl rfl hbr hden (v5 N0 l0)).mono fun e W' ⟨he, hbl⟩ => ⟨_, he, ?_⟩
  exact post_law laidOut' (by kernel_rfl) (tb := 4) (by kernel_rfl) (by kernel_rfl) rfl rfl hW' hbl

theorem reads (os : Os) {H : Type} (enc : TypeId × Value → H) : ∃ places, DataW.whole enc Try.prog ((w0 os).forCall (fun _ _ => 0) ⟨#[], #[.agg #[.int .i64 0, .slice none 0 0]], []⟩).memory Try.f5.params.toList Rows.linextCountSpec.vars false (#[.agg #[.int .i64 0, .slice none 0 0]] : Array Value).toList 8 = some ([.agg [.lit (.int .i64 0), .nil]], [], places) :=
  ⟨[], by kernel_rfl⟩
theorem lifted (os : Os) (started : os.Started) (H : Type) (enc : TypeId × Value → H) (F : Stop.Interp) :
    ReturnsInHanded {} Try.checked os 5 .any ((OpenSpec.ofChange Rows.linextCountSpec).preRow enc Try.prog Try.f5 Rows.linextCountRow.domain false Rows.linextCountRow.laid) (((OpenSpec.ofChange Rows.linextCountSpec).at F).post enc Try.prog Try.f5 false true false false) := by
  obtain ⟨places, hx⟩ := reads os enc
  refine returnsInHanded_of_row (C := Try.checked) (s := OpenSpec.ofChange Rows.linextCountSpec) own' started (by kernel_rfl) Try.func5
    (witness_row_at (enc := enc) (C := Try.checked) false (w0 os) #[.agg #[.int .i64 0, .slice none 0 0]] rfl (by kernel_rfl) (by kernel_rfl) (by kernel_rfl)
      (OpenSpec.preRow_of_cond 8 hx (by kernel_rfl) (fun k hk => by cases hk) (by kernel_rfl) ⟨[], rfl, List.nodup_nil, fun _ _ h => by cases h⟩)) ?_
  intro W base args ds gs before hval hW _ _ _ hL _ _
  exact contract H enc W base args ds gs before hval hW
theorem said : Rows.LinextCountSaid :=
  OpenClaim.holds_of_cond 5 Try.f5 rfl rfl rfl rfl rfl rfl rfl ⟨rfl, rfl, rfl, rfl, rfl⟩ rfl rfl rfl rfl rfl (by kernel_rfl) Try.func5 (by kernel_rfl)
    (of_decide_eq_true (by kernel_rfl)) (by unfold Func.isWrapper; first | (rw [if_pos (by decide +kernel)]; kernel_rfl) | (rw [if_neg (by decide +kernel)]; exact ⟨rfl, rfl⟩))
    (fun os started H enc _ F => by rw [OpenClaim.pre_eq_preRow]; exact lifted os started H enc F)
end LinextCount
end Go.Proofs.Ytiokmglajigngaa
