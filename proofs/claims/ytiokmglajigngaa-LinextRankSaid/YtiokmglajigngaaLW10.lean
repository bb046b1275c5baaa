/-
  For every input the law LinextRank (modelchecklaw05) returns true, and the input reads behind the call as it did before: Rank and Nth are inverse to each other, All lists the extensions by increasing rank, its length is Count and its first element is First, for valid acyclic relations on at most 6 numbers with at most 60 pairs.
  Conditions: none.
-/
import Derived.Test.YtiokmglajigngaaLLaw
import Derived.Test.YtiokmglajigngaaL25
namespace Go.Proofs.Ytiokmglajigngaa
open Go Go.Proofs.Ytiokmglajigngaa.Sx Go.ChangeShapes Go.WideShapes Go.ChangeAt Go.RowKit
set_option maxRecDepth 100000
set_option linter.unusedSimpArgs false
set_option linter.unusedVariables false
namespace LinextRank
theorem contract (H : Type) (enc : TypeId × Value → H) (W : World) (base : Nat) (args : Array Value) (ds gs : List (DataW H)) (before : List MemPlace)
    (hval : ∀ (j : Nat) t v, Try.f10.params[j]? = some t → args[j]? = some v → Value.okWide Try.prog W .any base t v)
    (hW : DataW.Whole enc Try.prog Try.f10.params.toList Rows.linextRankSpec.vars false W args.toList ds gs before) :
    Calls Try.prog 10 args W fun e W' => ∃ v, e = .returned v ∧ Rows.linextRankSpec.post enc Try.prog Try.f10 false true false false W args v W' := by
  have hW' := hW
  obtain ⟨p, q, hA, hV, hb, hfz, hnd⟩ := hW
  rw [Try.params10] at hA hval
  obtain ⟨v0, vs0, d0, ds0, p0, q0, hargs, rfl, rfl, h0, r0⟩ := trodAll_cons hA
  obtain ⟨rfl, rfl, rfl⟩ := trodAll_nil r0
  obtain rfl : args = #[v0] := by cases args; simp_all
  obtain ⟨rfl, rfl⟩ := trodVars_none hV
  obtain ⟨N0, l0, y0, z0⟩ := open_rel (hval 0 _ _ rfl rfl) h0
  let ys : List (Option Addr × Nat) := [y0]
  let E : Nat → Option (Option Addr × Nat) := fun i => ys[i]?
  have hbr : ∀ i k, ([arP l0] : List MBlk)[i]? = some k → BR (argEnv W E) W i k := fun i k hk => by
    match i, hk with
    | 0, hk => simp only [List.getElem?_cons_succ, List.getElem?_cons_zero, Option.some.injEq] at hk; subst hk; exact (z0 E 0 rfl).1
    | i + 1, hk => simp at hk
  have hden : DenL (argEnv W E) [rlV N0 0 l0] [v0] := DenL.cons (z0 E 0 rfl).2 (DenL.nil _)
  refine (law_goN ys (T := tab [kFew [], kVal' [], kAcy' [], kAwk [], kCnt [], kAll [none, none, some (.rs (alL N0 l0 1048576))], kFst [none, none, none, some (.is (fstL N0 l0))], kNth [], kRnk [], kIs [], kInt []] [(0, .of (lRw (cntV N0 l0)))]) (tabOk (mOne (n12 _) (mOne (n27 _) (mOne (n28 _) (mOne (n13 _) (mOne (n24 _) (mOne (n19 _) (mOne (n14 _) (mOne (n31 _) (mOne (n29 _) (mOne (n16 _) (mOne (n18 _) mNil)))))))))))) rfl rfl Try.func10 rfl rfl hbr hden (v10 N0 l0 _ _ rfl rfl)).mono fun e W' ⟨he, hbl⟩ => ⟨_, he, ?_⟩
  exact post_law laidOut' (by kernel_rfl) (tb := 4) (by kernel_rfl) (by kernel_rfl) rfl rfl hW' hbl

theorem reads (os : Os) {H : Type} (enc : TypeId × Value → H) : ∃ places, DataW.whole enc Try.prog ((w0 os).forCall (fun _ _ => 0) ⟨#[], #[.agg #[.int .i64 0, .slice none 0 0]], []⟩).memory Try.f10.params.toList Rows.linextRankSpec.vars false (#[.agg #[.int .i64 0, .slice none 0 0]] : Array Value).toList 8 = some ([.agg [.lit (.int .i64 0), .nil]], [], places) :=
  ⟨[], by kernel_rfl⟩
theorem lifted (os : Os) (started : os.Started) (H : Type) (enc : TypeId × Value → H) (F : Stop.Interp) :
    ReturnsInHanded {} Try.checked os 10 .any ((OpenSpec.ofChange Rows.linextRankSpec).preRow enc Try.prog Try.f10 Rows.linextRankRow.domain false Rows.linextRankRow.laid) (((OpenSpec.ofChange Rows.linextRankSpec).at F).post enc Try.prog Try.f10 false true false false) := by
  obtain ⟨places, hx⟩ := reads os enc
  refine returnsInHanded_of_row (C := Try.checked) (s := OpenSpec.ofChange Rows.linextRankSpec) own' started (by kernel_rfl) Try.func10
    (witness_row_at (enc := enc) (C := Try.checked) false (w0 os) #[.agg #[.int .i64 0, .slice none 0 0]] rfl (by kernel_rfl) (by kernel_rfl) (by kernel_rfl)
      (OpenSpec.preRow_of_cond 8 hx (by kernel_rfl) (fun k hk => by cases hk) (by kernel_rfl) ⟨[], rfl, List.nodup_nil, fun _ _ h => by cases h⟩)) ?_
  intro W base args ds gs before hval hW _ _ _ hL _ _
  exact contract H enc W base args ds gs before hval hW
theorem said : Rows.LinextRankSaid :=
  OpenClaim.holds_of_cond 10 Try.f10 rfl rfl rfl rfl rfl rfl rfl ⟨rfl, rfl, rfl, rfl, rfl⟩ rfl rfl rfl rfl rfl (by kernel_rfl) Try.func10 (by kernel_rfl)
    (of_decide_eq_true (by kernel_rfl)) (by unfold Func.isWrapper; first | (rw [if_pos (by decide +kernel)]; kernel_rfl) | (rw [if_neg (by decide +kernel)]; exact ⟨rfl, rfl⟩))
    (fun os started H enc _ F => by rw [OpenClaim.pre_eq_preRow]; exact lifted os started H enc F)
end LinextRank
end Go.Proofs.Ytiokmglajigngaa
