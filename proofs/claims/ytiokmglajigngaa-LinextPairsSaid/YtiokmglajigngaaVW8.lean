/-
  For every input the law LinextPairs (modelchecklaw05) returns true, and the input reads behind the call as it did before: a valid acyclic relation on at most 9 numbers has at least one extension, and no more extensions and downsets than without its last pair.
  Conditions: none.
-/
import Derived.Test.YtiokmglajigngaaVOpen2
import Derived.Test.YtiokmglajigngaaV34
namespace Go.Proofs.Ytiokmglajigngaa
open Go Go.Proofs.Ytiokmglajigngaa.Sx Go.ChangeShapes Go.WideShapes Go.ChangeAt Go.RowKit
set_option maxRecDepth 100000
set_option linter.unusedSimpArgs false
set_option linter.unusedVariables false
namespace LinextPairs
theorem contract (H : Type) (enc : TypeId × Value → H) (W : World) (base : Nat) (args : Array Value) (ds gs : List (DataW H)) (before : List MemPlace)
    (hval : ∀ (j : Nat) t v, Try.f8.params[j]? = some t → args[j]? = some v → Value.okWide Try.prog W .any base t v)
    (hsz : (DataW.weightsEach Try.prog (Try.f8.params.toList ++ []) (ds ++ gs)).all (· ≤ reachBytes) = true)
    (hW : DataW.Whole enc Try.prog Try.f8.params.toList Rows.linextPairsSpec.vars false W args.toList ds gs before) :
    Calls Try.prog 8 args W fun e W' => ∃ v, e = .returned v ∧ Rows.linextPairsSpec.post enc Try.prog Try.f8 false true false false W args v W' := by
  have hW' := hW
  obtain ⟨p, q, hA, hV, hb, hfz, hnd⟩ := hW
  rw [Try.params8] at hA hval hsz
  obtain ⟨v0, vs0, d0, ds0, p0, q0, hargs, rfl, rfl, h0, r0⟩ := trodAll_cons hA
  obtain ⟨v1, vs1, d1, ds1, p1, q1, rfl, rfl, rfl, h1, r1⟩ := trodAll_cons r0
  obtain ⟨v2, vs2, d2, ds2, p2, q2, rfl, rfl, rfl, h2, r2⟩ := trodAll_cons r1
  obtain ⟨rfl, rfl, rfl⟩ := trodAll_nil r2
  obtain rfl : args = #[v0, v1, v2] := by cases args; simp_all
  obtain ⟨rfl, rfl⟩ := trodVars_none hV
  obtain ⟨N0, l0, y0, zl0, z0⟩ := open_relW (hval 0 _ _ rfl rfl) h0
  obtain ⟨n1, rfl, rfl, rfl, k1⟩ := open_int (k := .i64) (by kernel_rfl) (hval 1 _ _ rfl rfl) h1
  obtain ⟨n2, rfl, rfl, rfl, k2⟩ := open_int (k := .i64) (by kernel_rfl) (hval 2 _ _ rfl rfl) h2
  let ys : List (Option Addr × Nat) := [y0]
  let E : Nat → Option (Option Addr × Nat) := fun i => ys[i]?
  have hbr : ∀ i k, ([arP l0] : List MBlk)[i]? = some k → BR (argEnv W E) W i k := fun i k hk => by
    match i, hk with
    | 0, hk => simp only [List.getElem?_cons_succ, List.getElem?_cons_zero, Option.some.injEq] at hk; subst hk; exact (z0 E 0 rfl).1
    | i + 1, hk => simp at hk
  have hden : DenL (argEnv W E) [rlV N0 0 l0, .i .i64 n1, .i .i64 n2] [v0, .int .i64 n1, .int .i64 n2] := DenL.cons (z0 E 0 rfl).2 (DenL.cons (.i _ _) (DenL.cons (.i _ _) (DenL.nil _)))
  refine (law_goN ys (T := tab [kFew [], kVal' [none, none, some (.ps (l0 ++ [(n1, n2)]))], kAcy' [none, none, some (.ps (l0 ++ [(n1, n2)]))], kAwk [], kCnt [none, none, some (.ps (l0 ++ [(n1, n2)]))], kDws [none, none, some (.ps (l0 ++ [(n1, n2)]))]] []) (tabOk (loops := []) (mOne (n12 _) (mOne (n27 _) (mOne (n28 _) (mOne (n13 _) (mOne (n24 _) (mOne (n22 _) mNil))))))) rfl rfl Try.func8 rfl rfl hbr hden (v8 N0 l0 n1 n2 _ rfl (by rw [List.length_append, List.length_singleton]; have := rel_reach hsz (j := 0) rfl rfl zl0; omega))).mono fun e W' ⟨he, hbl⟩ => ⟨_, he, ?_⟩
  exact post_law laidOut' (by kernel_rfl) (tb := 4) (by kernel_rfl) (by kernel_rfl) rfl rfl hW' hbl

theorem reads (os : Os) {H : Type} (enc : TypeId × Value → H) : ∃ places, DataW.whole enc Try.prog ((w0 os).forCall (fun _ _ => 0) ⟨#[], #[.agg #[.int .i64 0, .slice none 0 0], .int .i64 0, .int .i64 0], []⟩).memory Try.f8.params.toList Rows.linextPairsSpec.vars false (#[.agg #[.int .i64 0, .slice none 0 0], .int .i64 0, .int .i64 0] : Array Value).toList 8 = some ([.agg [.lit (.int .i64 0), .nil], .lit (.int .i64 0), .lit (.int .i64 0)], [], places) :=
  ⟨[], by kernel_rfl⟩
theorem lifted (os : Os) (started : os.Started) (H : Type) (enc : TypeId × Value → H) (F : Stop.Interp) :
    ReturnsInHanded {} Try.checked os 8 .any ((OpenSpec.ofChange Rows.linextPairsSpec).preRow enc Try.prog Try.f8 Rows.linextPairsRow.domain false Rows.linextPairsRow.laid) (((OpenSpec.ofChange Rows.linextPairsSpec).at F).post enc Try.prog Try.f8 false true false false) := by
  obtain ⟨places, hx⟩ := reads os enc
  refine returnsInHanded_of_row (C := Try.checked) (s := OpenSpec.ofChange Rows.linextPairsSpec) own' started (by kernel_rfl) Try.func8
    (witness_row_at (enc := enc) (C := Try.checked) false (w0 os) #[.agg #[.int .i64 0, .slice none 0 0], .int .i64 0, .int .i64 0] rfl (by kernel_rfl) (by kernel_rfl) (by kernel_rfl)
      (OpenSpec.preRow_of_cond 8 hx (by kernel_rfl) (fun k hk => by cases hk) (by kernel_rfl) ⟨[], rfl, List.nodup_nil, fun _ _ h => by cases h⟩)) ?_
  intro W base args ds gs before hval hW _ _ hsz hL _ _
  exact contract H enc W base args ds gs before hval hsz hW
theorem said : Rows.LinextPairsSaid :=
  OpenClaim.holds_of_cond 8 Try.f8 rfl rfl rfl rfl rfl rfl rfl ⟨rfl, rfl, rfl, rfl, rfl⟩ rfl rfl rfl rfl rfl (by kernel_rfl) Try.func8 (by kernel_rfl)
    (of_decide_eq_true (by kernel_rfl)) (by unfold Func.isWrapper; first | (rw [if_pos (by decide +kernel)]; kernel_rfl) | (rw [if_neg (by decide +kernel)]; exact ⟨rfl, rfl⟩))
    (fun os started H enc _ F => by rw [OpenClaim.pre_eq_preRow]; exact lifted os started H enc F)
end LinextPairs
end Go.Proofs.Ytiokmglajigngaa
