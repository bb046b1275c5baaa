/-
  A symbolic executor for the model's code: arguments that are slices of plain data; a law's run.
-/
import Derived.Test.YtiokmglajigngaaSt14
namespace Go.Proofs.Ytiokmglajigngaa.Sx
open Go Go.RowKit Go.ChangeShapes Go.WideShapes

section
variable {H : Type} {enc : TypeId × Value → H} {P : Program} {w : World} {base : Nat} {sp : Nat → Bool} {held : Bool}

theorem mapM_get' {α β : Type} {f : α → Option β} : ∀ {l : List α} {ys : List β}, l.mapM f = some ys → ys.length = l.length ∧ ∀ (i : Nat) (x : α), l[i]? = some x → f x = ys[i]? := by
  intro l
  induction l with
  | nil => intro ys h; simp at h; subst h; simp
  | cons a r ih =>
    intro ys h
    simp only [List.mapM_cons, Option.bind_eq_bind, Option.bind_eq_some_iff, Option.pure_def, Option.some.injEq] at h
    obtain ⟨y, hy, zs, hz, rfl⟩ := h
    obtain ⟨h1, h2⟩ := ih hz
    refine ⟨by simp [h1], fun i x hx => ?_⟩
    cases i with
    | zero => simp at hx; subst hx; simpa using hy
    | succ i => simpa using h2 i x (by simpa using hx)
theorem cells?_get {a : Addr} {n : Nat} {cs : List Value} (h : w.cells? base a n = some cs) : ∀ k, k < n → w.cell? (a.add k) = cs[k]? := by
  unfold World.cells? at h
  split at h
  · intro k hk
    exact (mapM_get' h).2 k k (by simp [hk])
  · cases h
theorem cellsK_get : ∀ {ks : List (Option IntKind)} {cs : List Value}, cellsK ks cs → ∀ (k : Nat) (kd : Option IntKind), ks[k]? = some kd → ∃ u, cs[k]? = some u ∧ cellK kd u := by
  intro ks
  induction ks with
  | nil => intro cs _ k kd h; simp at h
  | cons x r ih =>
    intro cs h k kd hk
    cases cs with
    | nil => simp [cellsK] at h
    | cons v vs =>
      cases k with
      | zero => simp at hk; subst hk; exact ⟨v, rfl, h.1⟩
      | succ k => simpa using ih h.2 k kd (by simpa using hk)

/-- An argument that is a slice of plain elements. -/
theorem open_slice {r : Reach} {b0 f : Nat} {t e : TypeId} {v : Value} {d : DataW H} {p : List MemPlace} {ks : List (Option IntKind)} (ht : P.underlying t = some (.slice e)) (hk : kindsOf P f e = some ks) (hl : ks.length = P.cellsOf e) (h0 : 0 < ks.length) (hv : Value.okWide P w r b0 t v) (h : DataW.Trod enc P w base sp held t v d p) :
    ∃ A n c, v = .slice A n c ∧ n ≤ c ∧ n ≤ maxLen ∧ (0 < n → ∃ a, A = some a ∧ a.block < w.heap.size ∧ ∀ j, j < n → ∀ (k : Nat) (kd : Option IntKind), ks[k]? = some kd → ∃ u, w.cell? (a.add (j * ks.length + k)) = some u ∧ cellK kd u) := by
  obtain ⟨A, n, c, rfl⟩ := okWide_slice ht hv
  obtain ⟨fuel, hf⟩ := h
  have hcs : (Value.slice A n c).cells.toList = [.slice A n c] := by simp [Value.cells]
  rw [hcs] at hf
  rcases DataW.trod_slice ht hf with ⟨hz, _⟩ | ⟨a, len, cap, elems, rest, m, _, hz, _, _, hle, hmx, hel, hat, _⟩
  · simp only [List.cons.injEq, and_true, Value.slice.injEq] at hz
    obtain ⟨rfl, rfl, rfl⟩ := hz
    exact ⟨none, 0, 0, rfl, Nat.le_refl _, by simp [maxLen], fun h => absurd h (Nat.lt_irrefl _)⟩
  · simp only [List.cons.injEq, and_true, Value.slice.injEq] at hz
    obtain ⟨rfl, rfl, rfl⟩ := hz
    refine ⟨some a, n, c, rfl, hle, Nat.le_trans hle hmx, fun hn => ?_⟩
    have hcell : ∀ j, j < n → ∀ (k : Nat) (kd : Option IntKind), ks[k]? = some kd → ∃ u, w.cell? (a.add (j * ks.length + k)) = some u ∧ cellK kd u := fun j hj k kd hkk => by
      have h1 := hat j hj
      rw [List.getElem?_eq_getElem (by omega)] at h1
      rw [Option.bind_eq_some_iff] at h1
      obtain ⟨cs, hcs1, hcs2⟩ := h1
      obtain ⟨h2, _⟩ := kinds_cells f m e cs _ _ ks hk (show DataW.trod enc P w base sp held m e cs = some (elems[j].1, elems[j].2) from hcs2)
      obtain ⟨u, hu, hku⟩ := cellsK_get h2 k kd hkk
      have hkl := (List.getElem?_eq_some_iff.1 hkk).1
      have := cells?_get hcs1 k (by omega)
      rw [add_add', hu, ← hl] at this
      exact ⟨u, this, hku⟩
    refine ⟨a, rfl, ?_, hcell⟩
    obtain ⟨u, hu, _⟩ := hcell 0 hn 0 _ (List.getElem?_eq_getElem h0)
    have := World.block_lt_of_cell? w _ hu
    rw [block_add] at this
    exact this
end

/-- The environment of a law's arguments. -/
def argEnv (W : World) (E : Nat → Option (Option Addr × Nat)) : Env := ⟨E, fun g => g < W.heap.size, fun _ => False, fun _ _ => False⟩
theorem law_go {P : Program} {T : Tab} {W : World} {fid : FuncId} {fn : Func} {m0 : List MBlk} {vs : List SV} {xs : List Value} {E : Nat → Option (Option Addr × Nat)} (hT : TabOk P T) (hg : T.globals = []) (hpin : T.pins = []) (hf : P.funcs[fid]? = some fn)
    (hE : ∀ i, E i ≠ none → i < m0.length) (hok : memOk m0 = true) (hbr : ∀ i k, m0[i]? = some k → E i ≠ none → BR (argEnv W E) W i k) (hd : DenL (argEnv W E) vs xs) (hv : fnVc T fn vs m0 (plainIs .tt)) :
    Calls P fid xs.toArray W fun e W' => e = .returned (.bool true) ∧ Below W.heap.size W W' := by
  refine Calls.mono (fn_calls (B := ⟨fun g => g < W.heap.size, fun _ => False⟩) (w0 := W) (ρ := argEnv W E) hT hf hv ⟨fun g hg => hg, fun g hg => hg.2.elim, fun g hg => hg, .refl _ _, hbr, hE, fun _ _ h => h.elim, fun _ _ _ h => h.elim, fun _ _ _ _ _ _ h => h.elim, fun r s k l a b c d hk _ ho => ?_⟩ ⟨fun g i hgi => ?_, fun p hp => ?_⟩ hd) fun e W' ⟨v, ρ', m', sv, he, hdv, hm, hp, _⟩ => ⟨?_, hm.below.below⟩
  · rw [(memOk_get hok hk).2] at ho; cases ho
  · rw [hg] at hgi; cases hgi
  · rw [hpin] at hp; cases hp
  · rw [he, (veq_den _ _ _ hp hdv).tt_inv]
end Go.Proofs.Ytiokmglajigngaa.Sx
