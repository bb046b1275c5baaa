/-
  A symbolic executor for the model's code: arguments of plain types and their cells; a law that returns true and turns nothing that was there.
-/
import Derived.Test.YtiokmglajigngaaSt13
import Derived.Carry
import Derived.Below
import Derived.ChangeSame
import Derived.OpenShut
namespace Go.Proofs.Ytiokmglajigngaa.Sx
open Go Go.RowKit Go.ChangeShapes Go.WideShapes

/-- The cells' kinds of a plain type. none: a boolean. -/
def kindsF (P : Program) (g : TypeId → Option (List (Option IntKind))) (tot : Nat) : List Field → Nat → Option (List (Option IntKind))
  | [], off => bif Nat.beq off tot then some [] else none
  | x :: r, off => bif Nat.beq x.offset off then (match g x.type with
    | some ks => bif Nat.beq ks.length (P.cellsOf x.type) then (match kindsF P g tot r (off + P.cellsOf x.type) with
      | some l => some (ks ++ l)
      | none => none) else none
    | none => none) else none
def kindsN (ks : List (Option IntKind)) : Nat → List (Option IntKind)
  | 0 => []
  | n + 1 => ks ++ kindsN ks n
def kindsOf (P : Program) : Nat → TypeId → Option (List (Option IntKind))
  | 0, _ => none
  | f + 1, t => match P.underlying t with
    | some .bool => some [none]
    | some (.int k) => some [some k]
    | some (.struct fs) => kindsF P (kindsOf P f) (P.cellsOf t) fs.toList 0
    | some (.array n e) => match kindsOf P f e with
      | some ks => bif Nat.beq (n * P.cellsOf e) (P.cellsOf t) && Nat.beq ks.length (P.cellsOf e) then some (kindsN ks n) else none
      | none => none
    | _ => none

/-- A cell of this kind. -/
def cellK : Option IntKind → Value → Prop
  | some k, v => ∃ n, v = .int k n ∧ (Lit.int k n).wf = true
  | none, v => ∃ b, v = .bool b
def cellsK : List (Option IntKind) → List Value → Prop
  | [], [] => True
  | k :: ks, v :: vs => cellK k v ∧ cellsK ks vs
  | _, _ => False
theorem cellsK_i {k : IntKind} {ks : List (Option IntKind)} {cs : List Value} (h : cellsK (some k :: ks) cs) : ∃ n r, cs = .int k n :: r ∧ (Lit.int k n).wf = true ∧ cellsK ks r := by
  cases cs with
  | nil => simp [cellsK] at h
  | cons v vs =>
    obtain ⟨⟨n, rfl, hw⟩, h2⟩ := h
    exact ⟨n, vs, rfl, hw, h2⟩
theorem cellsK_b {ks : List (Option IntKind)} {cs : List Value} (h : cellsK (none :: ks) cs) : ∃ b r, cs = .bool b :: r ∧ cellsK ks r := by
  cases cs with
  | nil => simp [cellsK] at h
  | cons v vs =>
    obtain ⟨⟨b, rfl⟩, h2⟩ := h
    exact ⟨b, vs, rfl, h2⟩
theorem cellsK_nil {cs : List Value} (h : cellsK [] cs) : cs = [] := by
  cases cs with
  | nil => rfl
  | cons v vs => simp [cellsK] at h
theorem cellsK_append {a b : List (Option IntKind)} {x y : List Value} (h : cellsK a x) (h' : cellsK b y) : cellsK (a ++ b) (x ++ y) := by
  induction a generalizing x with
  | nil => cases x <;> simp [cellsK] at h; simpa using h'
  | cons k ks ih =>
    cases x with
    | nil => simp [cellsK] at h
    | cons v vs => exact ⟨h.1, ih h.2⟩

section
variable {H : Type} {enc : TypeId × Value → H} {P : Program} {w : World} {base : Nat} {sp : Nat → Bool} {held : Bool}

theorem kinds_fields {f fuel : Nat} {cs : List Value} {tot : Nat} (hl : cs.length = tot) (ih : ∀ t cs d p ks, kindsOf P f t = some ks → DataW.trod enc P w base sp held fuel t cs = some (d, p) → cellsK ks cs ∧ p = []) :
    ∀ (fs : List Field) (off : Nat) (xs : List (DataW H × List MemPlace)) (ks : List (Option IntKind)), kindsF P (kindsOf P f) tot fs off = some ks → (fs.mapM fun f => DataW.trod enc P w base sp held fuel f.type ((cs.drop f.offset).take (P.cellsOf f.type))) = some xs → cellsK ks (cs.drop off) ∧ xs.flatMap (·.2) = [] := by
  intro fs
  induction fs with
  | nil =>
    intro off xs ks h hm
    simp only [kindsF] at h
    cases e : Nat.beq off tot
    · simp [e] at h
    · simp only [e, cond_true, Option.some.injEq] at h
      have := Nat.eq_of_beq_eq_true e
      simp only [List.mapM_nil, Option.pure_def, Option.some.injEq] at hm
      subst hm h
      rw [this, ← hl]
      simp [cellsK]
  | cons x r ihr =>
    intro off xs ks h hm
    simp only [kindsF] at h
    cases e : Nat.beq x.offset off
    · simp [e] at h
    · simp only [e, cond_true] at h
      have e1 := Nat.eq_of_beq_eq_true e
      split at h
      · rename_i k1 hk1
        cases e2 : Nat.beq k1.length (P.cellsOf x.type)
        · simp [e2] at h
        · simp only [e2, cond_true] at h
          split at h
          · rename_i l hl2
            simp only [Option.some.injEq] at h
            subst h
            simp only [List.mapM_cons, Option.bind_eq_bind, Option.bind_eq_some_iff, Option.pure_def, Option.some.injEq] at hm
            obtain ⟨⟨d, p⟩, hb, ys, hys, rfl⟩ := hm
            obtain ⟨h1, h1'⟩ := ih _ _ _ _ _ hk1 hb
            obtain ⟨h2, h2'⟩ := ihr _ _ _ hl2 hys
            rw [e1] at h1
            refine ⟨?_, by simp [h1', h2']⟩
            rw [← List.take_append_drop (P.cellsOf x.type) (cs.drop off), List.drop_drop]
            exact cellsK_append h1 h2
          · cases h
      · cases h

theorem kinds_elems {f fuel s e : Nat} {cs : List Value} {ks : List (Option IntKind)} (he : kindsOf P f e = some ks) (ih : ∀ t cs d p ks, kindsOf P f t = some ks → DataW.trod enc P w base sp held fuel t cs = some (d, p) → cellsK ks cs ∧ p = []) :
    ∀ (m k : Nat) (xs : List (DataW H × List MemPlace)), (k + m) * s = cs.length → ((List.range' k m).mapM fun i => DataW.trod enc P w base sp held fuel e ((cs.drop (i * s)).take s)) = some xs → cellsK (kindsN ks m) (cs.drop (k * s)) ∧ xs.flatMap (·.2) = [] := by
  intro m
  induction m with
  | zero =>
    intro k xs hl hm
    simp only [List.range'_zero, List.mapM_nil, Option.pure_def, Option.some.injEq] at hm
    subst hm
    simp only [Nat.add_zero] at hl
    rw [hl]
    simp [kindsN, cellsK]
  | succ m ihm =>
    intro k xs hl hm
    simp only [List.range'_succ, List.mapM_cons, Option.bind_eq_bind, Option.bind_eq_some_iff, Option.pure_def, Option.some.injEq] at hm
    obtain ⟨⟨d, p⟩, hb, ys, hys, rfl⟩ := hm
    obtain ⟨h1, h1'⟩ := ih _ _ _ _ _ he hb
    obtain ⟨h2, h2'⟩ := ihm (k + 1) ys (by rw [← hl]; congr 1; omega) hys
    refine ⟨?_, by simp [h1', h2']⟩
    rw [← List.take_append_drop s (cs.drop (k * s)), List.drop_drop]
    rw [Nat.add_mul, Nat.one_mul] at h2
    exact cellsK_append h1 h2

/-- What reads at a plain type: cells of its kinds, and nothing in memory. -/
theorem kinds_cells : ∀ (f fuel : Nat) (t : TypeId) (cs : List Value) (d : DataW H) (p : List MemPlace) (ks : List (Option IntKind)), kindsOf P f t = some ks → DataW.trod enc P w base sp held fuel t cs = some (d, p) → cellsK ks cs ∧ p = [] := by
  intro f
  induction f with
  | zero => intro fuel t cs d p ks h; simp [kindsOf] at h
  | succ f ih =>
    intro fuel t cs d p ks h hd
    cases fuel with
    | zero => simp [DataW.trod] at hd
    | succ fuel =>
      simp only [kindsOf] at h
      split at h
      · rename_i ht
        simp only [Option.some.injEq] at h
        subst h
        obtain ⟨b, rfl, hx⟩ := DataW.trod_bool ht hd
        simp only [Prod.mk.injEq] at hx
        exact ⟨⟨⟨b, rfl⟩, trivial⟩, hx.2⟩
      · rename_i k ht
        simp only [Option.some.injEq] at h
        subst h
        obtain ⟨n, rfl, hx, hw⟩ := DataW.trod_int ht hd
        simp only [Prod.mk.injEq] at hx
        exact ⟨⟨⟨n, rfl, hw⟩, trivial⟩, hx.2⟩
      · rename_i fs ht
        simp only [DataW.trod, ht] at hd
        split at hd
        · rename_i hl
          obtain ⟨xs, hm, hx⟩ := Option.map_eq_some_iff.1 hd
          simp only [Prod.mk.injEq] at hx
          have := kinds_fields hl (fun t cs d p ks => ih fuel t cs d p ks) fs.toList 0 xs _ h hm
          exact ⟨by simpa using this.1, by rw [← hx.2]; exact this.2⟩
        · cases hd
      · rename_i n e ht
        split at h
        · rename_i k1 hk1
          cases e2 : (Nat.beq (n * P.cellsOf e) (P.cellsOf t) && Nat.beq k1.length (P.cellsOf e))
          · simp [e2] at h
          · simp only [e2, cond_true, Option.some.injEq] at h
            subst h
            simp only [Bool.and_eq_true] at e2
            have e1 := Nat.eq_of_beq_eq_true e2.1
            simp only [DataW.trod, ht] at hd
            split at hd
            · rename_i hl
              obtain ⟨xs, hm, hx⟩ := Option.map_eq_some_iff.1 hd
              simp only [Prod.mk.injEq] at hx
              rw [List.range_eq_range'] at hm
              have := kinds_elems hk1 (fun t cs d p ks => ih fuel t cs d p ks) n 0 xs (by rw [Nat.zero_add, e1, hl]) hm
              exact ⟨by simpa using this.1, by rw [← hx.2]; exact this.2⟩
            · cases hd
        · cases h
      · cases h

/-- An argument of a plain struct type. -/
theorem open_plain {r : Reach} {b0 f : Nat} {t : TypeId} {fs : Array Field} {v : Value} {d : DataW H} {p : List MemPlace} {ks : List (Option IntKind)} (ht : P.underlying t = some (.struct fs)) (hk : kindsOf P f t = some ks) (hv : Value.okWide P w r b0 t v) (h : DataW.Trod enc P w base sp held t v d p) :
    ∃ cs : List Value, v = .agg cs.toArray ∧ cellsK ks cs ∧ p = [] := by
  obtain ⟨cs, rfl, _⟩ := okWide_struct ht hv
  obtain ⟨n, hn⟩ := h
  obtain ⟨h1, h2⟩ := kinds_cells f n t _ _ _ _ hk hn
  exact ⟨cs.toList, by simp, by simpa [Value.cells] using h1, h2⟩
end

section
variable {H : Type} {enc : TypeId × Value → H} {P : Program}

def readableAll (P : Program) (ts : List TypeId) : Bool := ts.all fun t => P.readableRec t && decide (t < P.types.size)
theorem trodAll_below {W W' : World} {sp : Nat → Bool} (hl : laidOutB P = true) (hb : Below W.heap.size W W') : ∀ {ts : List TypeId} {vs : List Value} {ds : List (DataW H)} {ps : List MemPlace}, readableAll P ts = true → DataW.TrodAll enc P W 0 (fun _ => true) true ts vs ds ps → (∀ p ∈ ps, sp p.block = true) → DataW.TrodAll enc P W' 0 sp true ts vs ds ps
  | [], [], [], _, _, h, _ => h
  | [], _ :: _, _, _, _, h, _ => h.elim
  | [], [], _ :: _, _, _, h, _ => h.elim
  | _ :: _, [], _, _, _, h, _ => h.elim
  | _ :: _, _ :: _, [], _, _, h, _ => h.elim
  | t :: ts, v :: vs, d :: ds, ps, hr, h, hs => by
    have hlt := h.lt
    obtain ⟨p, q, h1, h2, e⟩ := h
    simp only [readableAll, List.all_cons, Bool.and_eq_true, decide_eq_true_eq] at hr
    exact ⟨p, q, WideElems.Trod_stays hl hr.1.1 hr.1.2 h1 (fun x hx => hb.same (hlt x (by rw [e]; simp [hx]))) (fun x hx => hs x (by rw [e]; simp [hx])), trodAll_below hl hb (by simpa [readableAll] using hr.2) h2 (fun x hx => hs x (by rw [e]; simp [hx])), e⟩

/-- A law that names no variable, returns true, and turns nothing that was there. -/
theorem post_law {f : Func} {s : ChangeSpec} {apart fresh handsOn again : Bool} {W W' : World} {args : Array Value} {ds gs : List (DataW H)} {before : List MemPlace} {tb : TypeId} (hl : laidOutB P = true) (hr : readableAll P f.params.toList = true)
    (hres : f.resultTypes = #[tb]) (htb : P.underlying tb = some .bool) (hv : s.vars = []) (hs : s.fn H (ds ++ gs) = { results := [.lit (.bool true)], args := ds })
    (hW : DataW.Whole enc P f.params.toList s.vars apart W args.toList ds gs before) (hb : Below W.heap.size W W') : s.post enc P f apart fresh handsOn again W args (.bool true) W' := by
  have hW' := hW
  have hltW := hW.lt
  obtain ⟨p, q, hA, hV, rfl, hfz, hnd⟩ := hW
  rw [hv] at hV
  obtain ⟨rfl, rfl⟩ := trodVars_none hV
  have hlt : ∀ x ∈ p, x.block < W.heap.size := fun x hx => hltW x (by simp [hx])
  have key : ∀ sp : Nat → Bool, (∀ x ∈ p, sp x.block = true) → DataW.TrodAll enc P W' 0 sp true f.params.toList args.toList (s.fn H (ds ++ [])).args p := fun sp hsp => by
    rw [hs]; exact trodAll_below hl hb hr hA hsp
  have kres : ∀ (b : Nat) (sp : Nat → Bool) (hd : Bool), DataW.TrodAll enc P W' b sp hd f.resultTypes.toList ((Value.bool true).resultList f.resultTypes.size) (s.fn H (ds ++ [])).results [] := fun b sp hd => by
    rw [hs, hres]
    exact trodAll_cons_mk (shut_bool htb true) trodAll_mk0
  have kvars : ∀ sp : Nat → Bool, DataW.TrodVars enc P W' sp s.vars (s.fn H (ds ++ [])).vars [] := fun sp => by
    rw [hv, hs]; exact rfl
  refine ⟨ds, [], p ++ [], [], p, [], hW', kres _ _ _, key _ (fun x hx => by simpa using hlt x hx), kvars _, World.keptBut_mono (fun x hx => ⟨hx, Or.inr (by simpa using hx)⟩) (hb.frame (· ∈ p ++ [])), fun _ => ?_⟩
  refine ⟨ok_one hres rfl (okWide_bool_mk htb true), _, _, ([] ++ p) ++ [], ⟨[] ++ p, [], trodAll_append (key _ (fun _ _ => rfl)) (kres _ _ _), kvars _, rfl, ?_, ?_⟩, ?_⟩
  · intro b off hp
    have hin : MemPlace.cell b off ∈ p ++ [] := by simpa using hp
    rw [hb.frozen (hltW _ hin)]
    exact hfz b off hin
  · intro ha
    simpa using hnd ha
  · intro x hx _
    simpa using hx
end
end Go.Proofs.Ytiokmglajigngaa.Sx
