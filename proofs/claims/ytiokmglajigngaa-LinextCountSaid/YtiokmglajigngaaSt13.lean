/-
  A symbolic executor for the model's code: plain data (numbers, booleans, structs and arrays of them), read and laid.
-/
import Derived.Test.YtiokmglajigngaaSt12
import Derived.ChangeArms
import Derived.LaidLaws
namespace Go.Proofs.Ytiokmglajigngaa.Sx
open Go Go.RowKit

def plainF (P : Program) (g : TypeId → Bool) (tot : Nat) : List Field → Nat → Bool
  | [], off => Nat.beq off tot
  | x :: r, off => Nat.beq x.offset off && g x.type && plainF P g tot r (off + P.cellsOf x.type)
def plainTy (P : Program) : Nat → TypeId → Bool
  | 0, _ => false
  | f + 1, t => match P.underlying t with
    | some .bool => true
    | some (.int _) => true
    | some (.struct fs) => plainF P (plainTy P f) (P.cellsOf t) fs.toList 0
    | some (.array n e) => plainTy P f e && Nat.beq (n * P.cellsOf e) (P.cellsOf t)
    | _ => false
def litV {H : Type} : Nat → DataW H → List Value
  | 0, _ => []
  | _ + 1, .lit (.int k n) => [.int k n]
  | _ + 1, .lit (.bool b) => [.bool b]
  | f + 1, .agg ps => ps.flatMap (litV f)
  | _ + 1, _ => []

section
variable {H : Type} {enc : TypeId × Value → H} {P : Program} {w : World} {base : Nat} {sp : Nat → Bool} {held : Bool}

theorem plain_fields {f fuel : Nat} {cs : List Value} {tot : Nat} (hl : cs.length = tot) (ih : ∀ t cs d p, plainTy P f t = true → DataW.trod enc P w base sp held fuel t cs = some (d, p) → cs = litV f d) :
    ∀ (fs : List Field) (off : Nat) (xs : List (DataW H × List MemPlace)), plainF P (plainTy P f) tot fs off = true → (fs.mapM fun f => DataW.trod enc P w base sp held fuel f.type ((cs.drop f.offset).take (P.cellsOf f.type))) = some xs → cs.drop off = (xs.map (·.1)).flatMap (litV f) := by
  intro fs
  induction fs with
  | nil =>
    intro off xs h hm
    simp only [plainF] at h
    have := Nat.eq_of_beq_eq_true h
    simp only [List.mapM_nil, Option.pure_def, Option.some.injEq] at hm
    subst hm
    rw [this, ← hl]
    simp
  | cons x r ihr =>
    intro off xs h hm
    simp only [plainF, Bool.and_eq_true] at h
    have e1 := Nat.eq_of_beq_eq_true h.1.1
    simp only [List.mapM_cons, Option.bind_eq_bind, Option.bind_eq_some_iff, Option.pure_def, Option.some.injEq] at hm
    obtain ⟨⟨d, p⟩, hb, ys, hys, rfl⟩ := hm
    have h1 := ih _ _ _ _ h.1.2 hb
    have h2 := ihr _ _ h.2 hys
    rw [e1] at h1
    simp only [List.map_cons, List.flatMap_cons]
    rw [← h1, ← h2, ← List.drop_drop, List.take_append_drop]

theorem plain_elems {f fuel s e : Nat} {cs : List Value} (he : plainTy P f e = true) (ih : ∀ t cs d p, plainTy P f t = true → DataW.trod enc P w base sp held fuel t cs = some (d, p) → cs = litV f d) :
    ∀ (m k : Nat) (xs : List (DataW H × List MemPlace)), (k + m) * s = cs.length → ((List.range' k m).mapM fun i => DataW.trod enc P w base sp held fuel e ((cs.drop (i * s)).take s)) = some xs → cs.drop (k * s) = (xs.map (·.1)).flatMap (litV f) := by
  intro m
  induction m with
  | zero =>
    intro k xs hl hm
    simp only [List.range'_zero, List.mapM_nil, Option.pure_def, Option.some.injEq] at hm
    subst hm
    simp only [Nat.add_zero] at hl
    rw [hl]
    simp
  | succ m ihm =>
    intro k xs hl hm
    simp only [List.range'_succ, List.mapM_cons, Option.bind_eq_bind, Option.bind_eq_some_iff, Option.pure_def, Option.some.injEq] at hm
    obtain ⟨⟨d, p⟩, hb, ys, hys, rfl⟩ := hm
    have h1 := ih _ _ _ _ he hb
    have h2 := ihm (k + 1) ys (by rw [← hl]; congr 1; omega) hys
    simp only [List.map_cons, List.flatMap_cons]
    rw [← h1, ← h2, Nat.add_mul, Nat.one_mul, ← List.drop_drop, List.take_append_drop]

/-- What reads as plain data is just these cells. -/
theorem plain_cells : ∀ (f fuel : Nat) (t : TypeId) (cs : List Value) (d : DataW H) (p : List MemPlace), plainTy P f t = true → DataW.trod enc P w base sp held fuel t cs = some (d, p) → cs = litV f d := by
  intro f
  induction f with
  | zero => intro fuel t cs d p h; simp [plainTy] at h
  | succ f ih =>
    intro fuel t cs d p h hd
    cases fuel with
    | zero => simp [DataW.trod] at hd
    | succ fuel =>
      simp only [plainTy] at h
      split at h
      · rename_i ht
        obtain ⟨b, rfl, hx⟩ := DataW.trod_bool ht hd
        simp only [Prod.mk.injEq] at hx
        obtain ⟨rfl, _⟩ := hx
        rfl
      · rename_i k ht
        obtain ⟨n, rfl, hx, _⟩ := DataW.trod_int ht hd
        simp only [Prod.mk.injEq] at hx
        obtain ⟨rfl, _⟩ := hx
        rfl
      · rename_i fs ht
        simp only [DataW.trod, ht] at hd
        split at hd
        · rename_i hl
          obtain ⟨xs, hm, hx⟩ := Option.map_eq_some_iff.1 hd
          simp only [Prod.mk.injEq] at hx
          obtain ⟨rfl, _⟩ := hx
          have := plain_fields hl (fun t cs d p => ih fuel t cs d p) fs.toList 0 xs h hm
          simpa [litV] using this
        · cases hd
      · rename_i n e ht
        simp only [Bool.and_eq_true] at h
        have e1 := Nat.eq_of_beq_eq_true h.2
        simp only [DataW.trod, ht] at hd
        split at hd
        · rename_i hl
          obtain ⟨xs, hm, hx⟩ := Option.map_eq_some_iff.1 hd
          simp only [Prod.mk.injEq] at hx
          obtain ⟨rfl, _⟩ := hx
          rw [List.range_eq_range'] at hm
          have := plain_elems h.1 (fun t cs d p => ih fuel t cs d p) n 0 xs (by rw [Nat.zero_add, e1, hl]) hm
          simpa [litV] using this
        · cases hd
      · cases h
end

def colPlain : Col → Bool
  | .int _ _ => true
  | .bool _ => true
  | _ => false
/-- A table's cells against its columns. -/
def tabChk (cells : List Value) (sz : Nat) (cols : List Col) : Nat → Bool
  | 0 => true
  | j + 1 => (List.range cols.length).all (fun k => match cells[j * sz + k]?, cols[k]? with
    | some v, some c => svIs (colAt c j) v && colPlain c
    | _, _ => false) && tabChk cells sz cols j
theorem tabChk_get {cells : List Value} {sz : Nat} {cols : List Col} : ∀ {n : Nat}, tabChk cells sz cols n = true → ∀ j, j < n → ∀ k col, cols[k]? = some col → ∃ v, cells[j * sz + k]? = some v ∧ ∀ S W, colDen S W col j v := by
  intro n
  induction n with
  | zero => intro _ j hj; omega
  | succ n ih =>
    intro h j hj k col hk
    simp only [tabChk, Bool.and_eq_true, List.all_eq_true, List.mem_range] at h
    by_cases e : j = n
    · subst e
      have := h.1 k (List.getElem?_eq_some_iff.1 hk).1
      rw [hk] at this
      split at this
      · rename_i v c hv hc
        simp only [Option.some.injEq] at hc
        subst hc
        rw [Bool.and_eq_true] at this
        refine ⟨v, hv, ?_⟩
        have hd := svIs_den ⟨fun _ => none, fun _ => False, fun _ => False, fun _ _ => False⟩ this.1
        cases col with
        | any => intro S W; trivial
        | rows len gs => simp [colPlain] at this
        | int kk g => simp only [colAt] at hd; intro S W; exact hd.i_inv
        | bool g => simp only [colAt] at hd; intro S W; exact hd.b_inv
      · cases this
    · exact ih h.2 j (by omega) k col hk

/-- A package-level variable that the row lists. -/
theorem laid_head {P : Program} {W : World} {name : String} {d : DataW Unit} {rest : List (String × DataW Unit)} {g t f : Nat} (hg : P.globalNamed name = some g) (hty : (P.globals[g]?).map (·.type) = some t) (hp : plainTy P f t = true) (h : laidMet P ((name, d) :: rest) W) :
    W.var? P name = some (litV f d).toArray := by
  obtain ⟨ps, ⟨g', t', cs, fuel, p, q, hg', ht', hvar, hd, _, _⟩, _⟩ := h
  obtain rfl := Option.some.inj (hg.symm.trans hg')
  obtain rfl := Option.some.inj (hty.symm.trans ht')
  have e := plain_cells f _ _ _ _ _ hp hd
  rw [hvar, ← e]
end Go.Proofs.Ytiokmglajigngaa.Sx
