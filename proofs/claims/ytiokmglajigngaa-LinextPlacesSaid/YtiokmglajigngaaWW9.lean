/-
  For every input the law LinextPlaces (modelchecklaw05) returns true, and the input reads behind the call as it did before: Rank and Nth return what the reference returns, numbers, lists and errors, for every relation on at most 6 numbers with at most 60 pairs, every order of at most 30 elements and every rank.
  Conditions: none.
-/
import Derived.Test.YtiokmglajigngaaW35
import Derived.Test.YtiokmglajigngaaW48
namespace Go.Proofs.Ytiokmglajigngaa
open Go Go.Proofs.Ytiokmglajigngaa.Sx Go.ChangeShapes Go.WideShapes Go.ChangeAt Go.RowKit
set_option maxRecDepth 100000
set_option linter.unusedSimpArgs false
set_option linter.unusedVariables false
namespace LinextPlaces
theorem contract (H : Type) (enc : TypeId × Value → H) (W : World) (base : Nat) (args : Array Value) (ds gs : List (DataW H)) (before : List MemPlace)
    (hval : ∀ (j : Nat) t v, Try.f9.params[j]? = some t → args[j]? = some v → Value.okWide Try.prog W .any base t v)
    (hW : DataW.Whole enc Try.prog Try.f9.params.toList Rows.linextPlacesSpec.vars false W args.toList ds gs before) :
    Calls Try.prog 9 args W fun e W' => ∃ v, e = .returned v ∧ Rows.linextPlacesSpec.post enc Try.prog Try.f9 false true false false W args v W' := by
  have hW' := hW
  obtain ⟨p, q, hA, hV, hb, hfz, hnd⟩ := hW
  rw [Try.params9] at hA hval
  obtain ⟨v0, vs0, d0, ds0, p0, q0, hargs, rfl, rfl, h0, r0⟩ := trodAll_cons hA
  obtain ⟨v1, vs1, d1, ds1, p1, q1, rfl, rfl, rfl, h1, r1⟩ := trodAll_cons r0
  obtain ⟨v2, vs2, d2, ds2, p2, q2, rfl, rfl, rfl, h2, r2⟩ := trodAll_cons r1
  obtain ⟨rfl, rfl, rfl⟩ := trodAll_nil r2
  obtain rfl : args = #[v0, v1, v2] := by cases args; simp_all
  obtain ⟨rfl, rfl⟩ := trodVars_none hV
  obtain ⟨N0, l0, y0, z0⟩ := open_rel (hval 0 _ _ rfl rfl) h0
  obtain ⟨l1, y1, z1⟩ := open_ints (hval 1 _ _ rfl rfl) h1
  obtain ⟨n2, rfl, rfl, rfl, k2⟩ := open_int (k := .i64) (by kernel_rfl) (hval 2 _ _ rfl rfl) h2
  let ys : List (Option Addr × Nat) := [y0, y1]
  let E : Nat → Option (Option Addr × Nat) := fun i => ys[i]?
  have hbr : ∀ i k, ([arP l0, arI l1] : List MBlk)[i]? = some k → BR (argEnv W E) W i k := fun i k hk => by
    match i, hk with
    | 0, hk => simp only [List.getElem?_cons_succ, List.getElem?_cons_zero, Option.some.injEq] at hk; subst hk; exact (z0 E 0 rfl).1
    | 1, hk => simp only [List.getElem?_cons_succ, List.getElem?_cons_zero, Option.some.injEq] at hk; subst hk; exact (z1 E 1 rfl).1
    | i + 2, hk => simp at hk
  have hden : DenL (argEnv W E) [rlV N0 0 l0, .sl 1 l1.length, .i .i64 n2] [v0, v1, .int .i64 n2] := DenL.cons (z0 E 0 rfl).2 (DenL.cons (z1 E 1 rfl).2 (DenL.cons (.i _ _) (DenL.nil _)))
  refine (law_goN ys (T := tab [kFew [], kAwk [], kRnk [some (.ps l0), some (.is l1)], kRkR [some (.ps l0), some (.is l1)], kNth [some (.ps l0)], kNtR [some (.ps l0)], kInt []] []) (tabOk (loops := []) (mOne (n12 _) (mOne (n13 _) (mOne (n29 _) (mOne (n30 _) (mOne (n31 _) (mOne (n32 _) (mOne (n18 _) mNil)))))))) rfl rfl Try.func9 rfl rfl hbr hden (v9 N0 l0 l1 n2)).mono fun e W' ⟨he, hbl⟩ => ⟨_, he, ?_⟩
  exact post_law laidOut' (by kernel_rfl) (tb := 4) (by kernel_rfl) (by kernel_rfl) rfl rfl hW' hbl
theorem reads (os : Os) {H : Type} (enc : TypeId × Value → H) : ∃ places, DataW.whole enc Try.prog ((w0 os).forCall (fun _ _ => 0) ⟨#[], #[.agg #[.int .i64 0, .slice none 0 0], .slice none 0 0, .int .i64 0], []⟩).memory Try.f9.params.toList Rows.linextPlacesSpec.vars false (#[.agg #[.int .i64 0, .slice none 0 0], .slice none 0 0, .int .i64 0] : Array Value).toList 8 = some ([.agg [.lit (.int .i64 0), .nil], .nil, .lit (.int .i64 0)], [], places) :=
  ⟨[], by kernel_rfl⟩
theorem lifted (os : Os) (started : os.Started) (H : Type) (enc : TypeId × Value → H) (F : Stop.Interp) :
    ReturnsInHanded {} Try.checked os 9 .any ((OpenSpec.ofChange Rows.linextPlacesSpec).preRow enc Try.prog Try.f9 Rows.linextPlacesRow.domain false Rows.linextPlacesRow.laid) (((OpenSpec.ofChange Rows.linextPlacesSpec).at F).post enc Try.prog Try.f9 false true false false) := by
  obtain ⟨places, hx⟩ := reads os enc
  refine returnsInHanded_of_row (C := Try.checked) (s := OpenSpec.ofChange Rows.linextPlacesSpec) own' started (by kernel_rfl) Try.func9
    (witness_row_at (enc := enc) (C := Try.checked) false (w0 os) #[.agg #[.int .i64 0, .slice none 0 0], .slice none 0 0, .int .i64 0] rfl (by kernel_rfl) (by kernel_rfl) (by kernel_rfl)
      (OpenSpec.preRow_of_cond 8 hx (by kernel_rfl) (fun k hk => by cases hk) (by kernel_rfl) ⟨[], rfl, List.nodup_nil, fun _ _ h => by cases h⟩)) ?_
  intro W base args ds gs before hval hW _ _ _ hL _ _
  exact contract H enc W base args ds gs before hval hW
theorem said : Rows.LinextPlacesSaid :=
  OpenClaim.holds_of_cond 9 Try.f9 rfl rfl rfl rfl rfl rfl rfl ⟨rfl, rfl, rfl, rfl, rfl⟩ rfl rfl rfl rfl rfl (by kernel_rfl) Try.func9 (by kernel_rfl)
    (of_decide_eq_true (by kernel_rfl)) (by unfold Func.isWrapper; first | (rw [if_pos (by decide +kernel)]; kernel_rfl) | (rw [if_neg (by decide +kernel)]; exact ⟨rfl, rfl⟩))
    (fun os started H enc _ F => by rw [OpenClaim.pre_eq_preRow]; exact lifted os started H enc F)
end LinextPlaces
end Go.Proofs.Ytiokmglajigngaa
