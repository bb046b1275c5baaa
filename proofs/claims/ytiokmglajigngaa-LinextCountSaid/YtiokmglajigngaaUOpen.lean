/-
  The linext layer: arguments that are relations.
-/
import Derived.Test.YtiokmglajigngaaU21
import Derived.WalkKit
import Derived.ProofKit
import Derived.OpenShut
import Derived.Deep.DeepHandedRow
namespace Go.Proofs.Ytiokmglajigngaa
open Go Go.Proofs.Ytiokmglajigngaa.Sx Go.ChangeShapes Go.WideShapes Go.ChangeAt Go.RowKit
set_option maxRecDepth 100000
theorem laidOut' : laidOutB Try.prog = true := by kernel_rfl
theorem own' : ownKnob Try.prog.godebug = none := by kernel_rfl
theorem kinds40 : kindsOf Try.prog 5 40 = some [some .i64, some .i64] := by kernel_rfl
def cellI (w : World) (a : Addr) : Int := match w.cell? a with
  | some (.int _ n) => n
  | _ => 0
theorem cellI_of {w : World} {a : Addr} {u : Value} {k : IntKind} (h : w.cell? a = some u) (hk : cellK (some k) u) : w.cell? a = some (.int k (cellI w a)) := by
  obtain ⟨n, rfl, _⟩ := hk
  simp only [cellI, h]
/-- A slice of plain elements, by its cell. -/
theorem open_cell {H : Type} {enc : TypeId × Value → H} {P : Program} {w : World} {base : Nat} {sp : Nat → Bool} {held : Bool} {f fuel : Nat} {t e : TypeId} {v : Value} {x : DataW H × List MemPlace} {ks : List (Option IntKind)} (ht : P.underlying t = some (.slice e)) (hk : kindsOf P f e = some ks) (hl : ks.length = P.cellsOf e) (h0 : 0 < ks.length) (hf : DataW.trod enc P w base sp held fuel t [v] = some x) :
    ∃ A n c, v = .slice A n c ∧ n ≤ c ∧ n ≤ maxLen ∧ (0 < n → ∃ a, A = some a ∧ a.block < w.heap.size ∧ ∀ j, j < n → ∀ (k : Nat) (kd : Option IntKind), ks[k]? = some kd → ∃ u, w.cell? (a.add (j * ks.length + k)) = some u ∧ cellK kd u) := by
  rcases DataW.trod_slice ht hf with ⟨hz, _⟩ | ⟨a, len, cap, elems, rest, m, _, hz, _, _, hle, hmx, hel, hat, _⟩
  · simp only [List.cons.injEq, and_true] at hz
    exact ⟨none, 0, 0, hz, Nat.le_refl _, by simp [maxLen], fun h => absurd h (Nat.lt_irrefl _)⟩
  · simp only [List.cons.injEq, and_true] at hz
    refine ⟨some a, len, cap, hz, hle, Nat.le_trans hle hmx, fun hn => ?_⟩
    have hcell : ∀ j, j < len → ∀ (k : Nat) (kd : Option IntKind), ks[k]? = some kd → ∃ u, w.cell? (a.add (j * ks.length + k)) = some u ∧ cellK kd u := fun j hj k kd hkk => by
      have h1 := hat j hj
      rw [List.getElem?_eq_getElem (by omega)] at h1
      rw [Option.bind_eq_some_iff] at h1
      obtain ⟨cs, hcs1, hcs2⟩ := h1
      obtain ⟨h2, _⟩ := kinds_cells f m e cs _ _ ks hk (show DataW.trod enc P w base sp held m e cs = some (elems[j].1, elems[j].2) from hcs2)
      obtain ⟨u, hu, hku⟩ := cellsK_get h2 k kd hkk
      have hkl := (List.getElem?_eq_some_iff.1 hkk).1
      have := cells?_get hcs1 k (by omega)
      rw [add_add', hu, ← hl] at this
      exact ⟨u, this, hku⟩
    refine ⟨a, rfl, ?_, hcell⟩
    obtain ⟨u, hu, _⟩ := hcell 0 hn 0 _ (List.getElem?_eq_getElem h0)
    have := World.block_lt_of_cell? w _ hu
    rw [Sx.block_add] at this
    exact this
/-- A relation's two fields. -/
noncomputable def fs24 : Field × Field := match Try.prog.underlying 24 with
  | some (.struct ⟨f :: g :: _⟩) => (f, g)
  | _ => (Field.mk "" 0 0 false "" "" 0, Field.mk "" 0 0 false "" "" 0)
/-- An argument that is a relation. -/
theorem open_rel {H : Type} {enc : TypeId × Value → H} {w : World} {base : Nat} {sp : Nat → Bool} {held : Bool} {r : Reach} {b0 : Nat} {v : Value} {d : DataW H} {p : List MemPlace} (hv : Value.okWide Try.prog w r b0 24 v) (h : DataW.Trod enc Try.prog w base sp held 24 v d p) :
    ∃ (N : Int) (l : List Pq) (y : Option Addr × Nat), ∀ (E : Nat → Option (Option Addr × Nat)) (i : Nat), E i = some y → BR (argEnv w E) w i (arP l) ∧ Den (argEnv w E) (rlV N i l) v := by
  obtain ⟨f0, f1, ht, e0, e1, o0, o1⟩ : ∃ f0 f1, Try.prog.underlying 24 = some (.struct #[f0, f1]) ∧ f0.type = 3 ∧ f1.type = 22 ∧ f0.offset = 0 ∧ f1.offset = 1 := ⟨fs24.1, fs24.2, by kernel_rfl, by kernel_rfl, by kernel_rfl, by kernel_rfl, by kernel_rfl⟩
  obtain ⟨cs, rfl, hsz⟩ := okWide_struct ht hv
  have h2 : Try.prog.cellsOf 24 = 2 := by kernel_rfl
  rw [h2] at hsz
  obtain ⟨c0, c1, hcs⟩ : ∃ c0 c1, cs = #[c0, c1] := by
    obtain ⟨l⟩ := cs
    match l, hsz with
    | [c0, c1], _ => exact ⟨c0, c1, rfl⟩
  subst hcs
  obtain ⟨fuel, hf⟩ := h
  have hce : (Value.agg #[c0, c1]).cells.toList = [c0, c1] := by simp [Value.cells]
  rw [hce] at hf
  obtain ⟨y0, y1, n, _, _, t0, t1⟩ := trod_struct2 ht hf
  have c3 : Try.prog.cellsOf 3 = 1 := by kernel_rfl
  have c22 : Try.prog.cellsOf 22 = 1 := by kernel_rfl
  rw [e0, o0, c3] at t0
  rw [e1, o1, c22] at t1
  simp only [List.drop_zero, List.take_succ_cons, List.take_zero] at t0
  simp only [List.drop_succ_cons, List.drop_zero, List.take_succ_cons, List.take_zero] at t1
  obtain ⟨N, hN, _, _⟩ := DataW.trod_int (k := .i64) (by kernel_rfl) t0
  simp only [List.cons.injEq, and_true] at hN
  subst hN
  obtain ⟨A, n, c, rfl, hnc, _, hc⟩ := open_cell (f := 5) (ks := [some .i64, some .i64]) (t := 22) (e := 40) (by kernel_rfl) (by kernel_rfl) (by kernel_rfl) (by simp) t1
  have hag : ∀ (E : Nat → Option (Option Addr × Nat)) (i k : Nat), Den (argEnv w E) (.sl i k) (.slice A n c) → Den (argEnv w E) (.agg [.i .i64 N, .sl i k]) (.agg #[.int .i64 N, .slice A n c]) := fun E i k hd => by
    have : DenL (argEnv w E) [.i .i64 N, .sl i k] [.int .i64 N, .slice A n c] := DenL.cons (.i _ _) (DenL.cons hd (DenL.nil _))
    exact .agg this.1 this.2
  cases A with
  | none =>
    have h0 : n = 0 := by
      cases n with
      | zero => rfl
      | succ n => obtain ⟨a, ha, _⟩ := hc (Nat.succ_pos n); cases ha
    subst h0
    exact ⟨N, [], (none, c), fun E i hE => ⟨⟨none, c, hE, hnc, fun h => absurd h (Nat.lt_irrefl _)⟩, hag E i 0 (.sl hE (fun h => absurd h (Nat.lt_irrefl _)))⟩⟩
  | some a =>
    refine ⟨N, mkN (fun j => (cellI w (a.add (j * 2 + 0)), cellI w (a.add (j * 2 + 1)))) n, (some a, c), fun E i hE => ⟨⟨some a, c, hE, by rw [mkN_len]; exact hnc, fun hn => ?_⟩, by rw [rlV, mkN_len]; exact hag E i n (.sl hE (fun _ => by simp))⟩⟩
    rw [mkN_len] at hn
    obtain ⟨a', ha, hlt, hcell⟩ := hc hn
    simp only [Option.some.injEq] at ha
    subst ha
    refine ⟨a, rfl, hlt, fun j hj k col hcol => ?_⟩
    rw [mkN_len] at hj
    match k, hcol with
    | 0, hcol =>
      simp [psCols] at hcol
      subst hcol
      obtain ⟨u, hu, hk⟩ := hcell j hj 0 (some .i64) rfl
      refine ⟨_, cellI_of hu hk, ?_⟩
      simp only [colDen, nthD_mkN _ _ hj]
      rfl
    | 1, hcol =>
      simp [psCols] at hcol
      subst hcol
      obtain ⟨u, hu, hk⟩ := hcell j hj 1 (some .i64) rfl
      refine ⟨_, cellI_of hu hk, ?_⟩
      simp only [colDen, nthD_mkN _ _ hj]
      rfl
    | k + 2, hcol => simp [psCols] at hcol
/-- An argument that is a slice of numbers. -/
theorem open_ints {H : Type} {enc : TypeId × Value → H} {w : World} {base : Nat} {sp : Nat → Bool} {held : Bool} {r : Reach} {b0 : Nat} {v : Value} {d : DataW H} {p : List MemPlace} (hv : Value.okWide Try.prog w r b0 25 v) (h : DataW.Trod enc Try.prog w base sp held 25 v d p) :
    ∃ (l : List Int) (y : Option Addr × Nat), ∀ (E : Nat → Option (Option Addr × Nat)) (i : Nat), E i = some y → BR (argEnv w E) w i (arI l) ∧ Den (argEnv w E) (.sl i l.length) v := by
  obtain ⟨A, n, c, rfl, hnc, _, hc⟩ := open_slice (f := 5) (ks := [some .i64]) (t := 25) (e := 3) (by kernel_rfl) (by kernel_rfl) (by kernel_rfl) (by simp) hv h
  cases A with
  | none =>
    have h0 : n = 0 := by
      cases n with
      | zero => rfl
      | succ n => obtain ⟨a, ha, _⟩ := hc (Nat.succ_pos n); cases ha
    subst h0
    exact ⟨[], (none, c), fun E i hE => ⟨⟨none, c, hE, hnc, fun h => absurd h (Nat.lt_irrefl _)⟩, .sl hE (fun h => absurd h (Nat.lt_irrefl _))⟩⟩
  | some a =>
    refine ⟨mkN (fun j => cellI w (a.add (j * 1 + 0))) n, (some a, c), fun E i hE => ⟨⟨some a, c, hE, by rw [mkN_len]; exact hnc, fun hn => ?_⟩, by rw [mkN_len]; exact .sl hE (fun _ => by simp)⟩⟩
    rw [mkN_len] at hn
    obtain ⟨a', ha, hlt, hcell⟩ := hc hn
    simp only [Option.some.injEq] at ha
    subst ha
    refine ⟨a, rfl, hlt, fun j hj k col hcol => ?_⟩
    rw [mkN_len] at hj
    match k, hcol with
    | 0, hcol =>
      simp [isCols] at hcol
      subst hcol
      obtain ⟨u, hu, hk⟩ := hcell j hj 0 (some .i64) rfl
      have hu' : w.cell? (a.add (j * 1 + 0)) = some u := hu
      refine ⟨_, cellI_of hu' hk, ?_⟩
      simp only [colDen]
      rw [nthD_mkN _ _ hj]
      simp [isCols]
    | k + 1, hcol => simp [isCols] at hcol
end Go.Proofs.Ytiokmglajigngaa
