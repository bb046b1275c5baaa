/-
  A symbolic executor for the model's code: from a function's condition to its contract.
-/
import Derived.Test.YtbhopcgbdofcjaaDoorSx11
namespace Go.Proofs.YtbhopcgbdofcjaaDoor.Sx
open Go Go.RowKit

mutual
/-- A value, its entries named otherwise. -/
def renSV (f : Nat → Nat) : SV → SV
  | .ptr r o => .ptr (f r) o
  | .pix r sz ix o => .pix (f r) sz ix o
  | .sl r n => .sl (f r) n
  | .sub r sz lo n => .sub (f r) sz lo n
  | .mp r => .mp (f r)
  | .agg xs => .agg (renL f xs)
  | .tup xs => .tup (renL f xs)
  | .fn g xs => .fn g (renL f xs)
  | x => x
def renL (f : Nat → Nat) : List SV → List SV
  | [] => []
  | x :: r => renSV f x :: renL f r
end

mutual
theorem renSV_den {f : Nat → Nat} {ρ : Env} : ∀ (x : SV) (v : Value), Den ρ (renSV f x) v → Den (fun i => ρ (f i)) x v
  | .tt, v, h => by simp only [renSV] at h; rw [h.tt_inv]; exact .tt
  | .ff, v, h => by simp only [renSV] at h; rw [h.ff_inv]; exact .ff
  | .nilsl, v, h => by simp only [renSV] at h; cases h; exact .nilsl
  | .nilptr, v, h => by simp only [renSV] at h; cases h; exact .nilptr
  | .nilmap, v, h => by simp only [renSV] at h; cases h; exact .nilmap
  | .dead, v, _ => .dead v
  | .b x, v, h => by simp only [renSV] at h; rw [h.b_inv]; exact .b _
  | .i k n, v, h => by simp only [renSV] at h; rw [h.i_inv]; exact .i _ _
  | .ptr r o, v, h => by simp only [renSV] at h; cases h with | ptr h => exact .ptr h
  | .pix r sz ix o, v, h => by simp only [renSV] at h; cases h with | pix h => exact .pix h
  | .sl r n, v, h => by simp only [renSV] at h; cases h with | sl h h' => exact .sl h h'
  | .sub r sz lo n, v, h => by simp only [renSV] at h; cases h with | sub h h' => exact .sub h h'
  | .mp r, v, h => by simp only [renSV] at h; cases h with | mp h => exact .mp h
  | .agg xs, v, h => by
    simp only [renSV] at h
    obtain ⟨vs, rfl, hv⟩ := h.agg_inv
    have := renL_den xs vs hv
    exact .agg this.1 this.2
  | .tup xs, v, h => by
    simp only [renSV] at h
    obtain ⟨vs, rfl, hv⟩ := h.tup_inv
    have := renL_den xs vs hv
    exact .tup this.1 this.2
  | .fn g xs, v, h => by
    simp only [renSV] at h
    cases h with
    | fn h1 h2 =>
      have := renL_den xs _ ⟨h1, h2⟩
      exact .fn this.1 this.2
  | .v x, v, h => by simp only [renSV] at h; cases h; exact .v _
theorem renL_den {f : Nat → Nat} {ρ : Env} : ∀ (xs : List SV) (vs : List Value), DenL ρ (renL f xs) vs → DenL (fun i => ρ (f i)) xs vs
  | [], vs, h => by simp only [renL] at h; rw [h.inv_nil]; exact DenL.nil _
  | x :: xs, vs, h => by
    simp only [renL] at h
    obtain ⟨w, ws, rfl, h1, h2⟩ := h.inv
    exact DenL.cons (renSV_den x w h1) (renL_den xs ws h2)
end

/-- What a callee knows of a caller's entry: it reads it only. -/
def known (k : MBlk) (k0 : MBlk) : Prop :=
  match k0 with
  | .arr n cols => srcOf k = some (n, cols)
  | .old cs => k = .cells cs ∨ k = .old cs
  | .gone => True
  | _ => False

def kOk : MBlk → Prop
  | .arr _ cols => cols ≠ []
  | .old cs => ltL cs 0 = true
  | .gone => True
  | _ => False

section
variable {P : Program} {T : Tab}

theorem known_br {B : Nat} {ρ : Env} {W : World} {r : Nat} {k k0 : MBlk} {f : Nat → Nat} {i : Nat} (h : BR B ρ W r k) (hB : B ≤ W.heap.size) (hf : f i = r) (hk : known k k0) (hc : kOk k0) : BR W.heap.size (fun i => ρ (f i)) W i k0 := by
  cases k0 with
  | gone => trivial
  | cells cs => exact hk.elim
  | oarr e n c => exact hk.elim
  | arr n cols =>
    simp only [known] at hk
    cases k with
    | cells cs => simp [srcOf] at hk
    | old cs => simp [srcOf] at hk
    | gone => simp [srcOf] at hk
    | arr n' cols' =>
      simp only [srcOf, Option.some.injEq, Prod.mk.injEq] at hk
      obtain ⟨rfl, rfl⟩ := hk
      obtain ⟨A, c, h1, h2⟩ := h
      refine ⟨A, c, by simp only [hf]; exact h1, fun hn => ?_⟩
      obtain ⟨a, ha, hlt, h3⟩ := h2 hn
      exact ⟨a, ha, by omega, h3⟩
    | oarr e n' cols' =>
      simp only [srcOf, Option.some.injEq, Prod.mk.injEq] at hk
      obtain ⟨rfl, rfl⟩ := hk
      obtain ⟨A, c, vs, h1, h2, h3, h4⟩ := h
      refine ⟨A, c, by simp only [hf]; exact h1, fun hn => ?_⟩
      cases A with
      | none =>
        rcases h2.2 with ⟨_, h0⟩ | ⟨g, cap, cur, h, _⟩
        · omega
        · simp at h
      | some ad =>
        have hlt := h2.lt ad.block rfl
        have hg : ad = ⟨ad.block, 0, none⟩ := by
          rcases h2.2 with ⟨h, _⟩ | ⟨g, cap, cur, h, _⟩
          · cases h
          · simp only [Value.slice.injEq, Option.some.injEq] at h
            rw [h.1]
        refine ⟨ad, rfl, hlt.2, fun j hj kk col hcol => ?_⟩
        obtain ⟨u, hu, hdu⟩ := h4 j hj kk col hcol
        refine ⟨u, ?_, hdu⟩
        rw [hg]
        exact h2.cells (g := ad.block) rfl _ u hu
  | old cs =>
    simp only [known] at hk
    simp only [kOk] at hc
    rcases hk with rfl | rfl
    · obtain ⟨g, t, vs, c, h1, h2, h3, h4⟩ := h
      refine ⟨⟨g, 0, none⟩, c, by simp only [hf]; exact h1, (Array.getElem?_eq_some_iff.1 h3).1, fun j x hx => ?_⟩
      obtain ⟨v, hv, hd⟩ := h4.get hx
      refine ⟨v, ?_, ltB_lies (ltL_get hc hx) (fun r y hr => by omega) hd⟩
      simp [World.cell?, Addr.add_lit, h3, hv]
    · obtain ⟨a, c, h1, h2, h3⟩ := h
      refine ⟨a, c, by simp only [hf]; exact h1, by omega, fun j x hx => ?_⟩
      obtain ⟨v, hv, hd⟩ := h3 j x hx
      exact ⟨v, hv, ltB_lies (ltL_get hc hx) (fun r y hr => by omega) hd⟩

def memOk : List MBlk → Bool
  | [] => true
  | .arr _ cols :: r => !cols.isEmpty && memOk r
  | .old cs :: r => ltL cs 0 && memOk r
  | .gone :: r => memOk r
  | _ => false
theorem memOk_get {m : List MBlk} (h : memOk m = true) {i : Nat} {k0 : MBlk} (hk : m[i]? = some k0) : kOk k0 ∧ ownOf k0 = false := by
  induction m generalizing i with
  | nil => simp at hk
  | cons x r ih =>
    cases i with
    | zero =>
      simp at hk
      subst hk
      cases x <;> simp_all [memOk, ownOf, kOk]
    | succ i => exact ih (by cases x <;> simp_all [memOk]) (by simpa using hk)

/-- What a callee's run gives, in the callee's own names. m0: what it knows; f: where its entries lie in the caller's list. -/
theorem callee {fid : FuncId} {fn : Func} {B : Nat} {ρ : Env} {W : World} {m m0 : List MBlk} {vs0 : List SV} {xs : List Value} {f : Nat → Nat} {R : SV → List MBlk → Prop} (hT : TabOk P T) (hfn : P.funcs[fid]? = some fn) (hB : B ≤ W.heap.size)
    (hblk : ∀ r k, m[r]? = some k → ρ r ≠ none → BR B ρ W r k) (hd : DenL ρ (renL f vs0) xs) (hlt : ltL vs0 m0.length = true) (hok : memOk m0 = true) (hkn : ∀ i k0, m0[i]? = some k0 → ∃ k, m[f i]? = some k ∧ known k k0)
    (hG : ∀ g i, assoc T.globals g = some i → i < m0.length ∧ ∃ c, ρ (f i) = some (some ⟨g, 0, none⟩, c)) (hv : fnVc T fn vs0 m0 R) :
    Calls P fid xs.toArray W (fun e W' => ∃ v ρ' m' sv, e = .returned v ∧ Den ρ' sv v ∧ MR W.heap.size W W' ρ' m' ∧ R sv m') := by
  let σ : Env := fun i => if i < m0.length then ρ (f i) else none
  have hσ : ∀ i y, i < m0.length → ρ (f i) = some y → σ i = some y := fun i y hi hy => by simp only [σ, if_pos hi]; exact hy
  have hσ2 : ∀ i, σ i ≠ none → i < m0.length ∧ ρ (f i) ≠ none := fun i hi => by
    simp only [σ] at hi
    split at hi
    · rename_i h; exact ⟨h, hi⟩
    · exact absurd rfl hi
  have h0 := renL_den (f := f) vs0 xs hd
  refine fn_calls (B := W.heap.size) (w0 := W) (ρ := σ) hT hfn hv ⟨rfl, Below.refl _ _, fun i k0 hk hne => ?_, fun i hi => (hσ2 i hi).1, fun r s k l a b c d hk _ ho => ?_⟩ (fun g i hg => ?_) ⟨h0.1, fun j x v hx hv => ltB_lies (ltL_get hlt hx) (fun r y hr hy => hσ r y hr hy) (h0.2 j x v hx hv)⟩
  · obtain ⟨hi, hne'⟩ := hσ2 i hne
    obtain ⟨k, hk', hkn'⟩ := hkn i k0 hk
    have := known_br (f := f) (i := i) (hblk _ k hk' hne') hB rfl hkn' (memOk_get hok hk).1
    have hb := (memOk_get hok hk)
    cases k0 with
    | gone => trivial
    | cells cs => exact hkn'.elim
    | oarr e n c => exact hkn'.elim
    | arr n cols =>
      obtain ⟨A, c, h1, h2⟩ := this
      exact ⟨A, c, hσ i _ hi h1, h2⟩
    | old cs =>
      obtain ⟨a, c, h1, h2, h3⟩ := this
      refine ⟨a, c, hσ i _ hi h1, h2, fun j x hx => ?_⟩
      obtain ⟨v, hv, hd⟩ := h3 j x hx
      exact ⟨v, hv, ltB_lies (ltL_get hb.1 hx) (fun r y hr => by omega) hd⟩
  · rw [(memOk_get hok hk).2] at ho
    cases ho
  · obtain ⟨hi, c, hc⟩ := hG g i hg
    exact ⟨c, hσ i _ hi hc⟩

/-- A function that gives a plain value. -/
def plainIs (x : SV) : SV → List MBlk → Prop := fun sv _ => veq x sv
/-- A function that gives a slice of its own. -/
def arrIs (e N : Nat) (cols : List Col) : SV → List MBlk → Prop := fun sv m => match sv with
  | .nilsl => N = 0
  | .sl r n => match nth m r with
    | some (.oarr e' n' cols') => bif Nat.beq e e' then n' = n ∧ n = N ∧ colsEq n cols cols' else False
    | _ => False
  | _ => False

theorem post_plain {B : Nat} {ρ : Env} {W : World} {base : Nat} {x : SV} (hx : x.ltB 0 = true) {fid : FuncId} {xs : Array Value} (h : Calls P fid xs W (fun e W' => ∃ v ρ' m' sv, e = .returned v ∧ Den ρ' sv v ∧ MR W.heap.size W W' ρ' m' ∧ plainIs x sv m')) :
    Calls P fid xs W (fun e W' => ∃ v, e = .returned v ∧ StepPost B ρ W base x [] v W') :=
  Calls.mono h fun e W' ⟨v, ρ', m', sv, he, hd, hm, hx'⟩ => ⟨v, he, hm.below, ρ, fun _ _ => rfl, ltB_lies hx (fun r y hr => by omega) (veq_den _ _ _ hx' hd), ⟨fun k b hk => by simp at hk, fun k b a c hk => by simp at hk, fun k l b d a c x y hk => by simp at hk⟩⟩

theorem ownsRow_base {W : World} {B B' e sz n : Nat} {v : Value} {xs : List Value} (h : W.ownsRow B' e sz v n xs) (hB : B ≤ B') : W.ownsRow B e sz v n xs := by
  refine ⟨h.1, h.2.imp id ?_⟩
  rintro ⟨g, cap, cur, h1, h2, h3⟩
  exact ⟨g, cap, cur, h1, by omega, h3⟩

theorem post_arr {B : Nat} {ρ : Env} {W : World} {base e N : Nat} {cols : List Col} (hc : 0 < cols.length) (hB : B ≤ W.heap.size) {fid : FuncId} {xs : Array Value} (h : Calls P fid xs W (fun ex W' => ∃ v ρ' m' sv, ex = .returned v ∧ Den ρ' sv v ∧ MR W.heap.size W W' ρ' m' ∧ arrIs e N cols sv m')) :
    Calls P fid xs W (fun ex W' => ∃ v, ex = .returned v ∧ StepPost B ρ W base (.sl base N) [.oarr e N cols] v W') := by
  refine Calls.mono h fun ex W' ⟨v, ρ', m', sv, he, hd, hm, hx'⟩ => ⟨v, he, ?_⟩
  have key : ∃ A c vs, v = .slice A N c ∧ W'.ownsRow W.heap.size e cols.length (.slice A N c) N vs ∧ ∀ j, j < N → ∀ k col, cols[k]? = some col → ∃ u, vs[j * cols.length + k]? = some u ∧ colDen col j u := by
    unfold arrIs at hx'
    split at hx'
    · subst hx'
      cases hd
      exact ⟨none, 0, [], rfl, ⟨by simp, .inl ⟨rfl, rfl⟩⟩, fun j hj => by omega⟩
    · rename_i r n
      split at hx'
      · rename_i e' n' cols' hr
        cases hee : Nat.beq e e'
        · simp [hee] at hx'
        · simp only [hee, cond_true] at hx'
          obtain ⟨rfl, rfl, hcc⟩ := hx'
          obtain rfl := Nat.eq_of_beq_eq_true hee
          obtain ⟨A, c, hA, rfl, _⟩ := hd.sl_inv
          obtain ⟨A', c', vs, h1, h2, h3, h4⟩ := hm.blk r _ (by rw [← nth_eq]; exact hr) (by rw [hA]; simp)
          rw [hA] at h1
          simp only [Option.some.injEq, Prod.mk.injEq] at h1
          obtain ⟨rfl, rfl⟩ := h1
          obtain ⟨e1, e2⟩ := colsEq_get hcc
          rw [e1] at h2 h4
          refine ⟨A, c, vs, rfl, h2, fun j hj k col hk => ?_⟩
          have hk' := (List.getElem?_eq_some_iff.1 hk).1
          obtain ⟨u, hu, hdu⟩ := h4 j hj k _ (List.getElem?_eq_getElem (by omega))
          exact ⟨u, hu, colEq_den (e2 k col _ hk (List.getElem?_eq_getElem (by omega))) hj hdu⟩
      · exact hx'.elim
    · exact hx'.elim
  obtain ⟨A, c, vs, rfl, h2, h4⟩ := key
  have hge : ∀ a, A = some a → W.heap.size ≤ a.block := fun a ha => by
    subst ha
    exact (h2.lt a.block rfl).1
  refine StepPost.one hm.below (.sl (Env.with_same ρ base (A, c)) (fun hN e0 => ?_)) ⟨A, c, vs, Env.with_same _ _ _, ownsRow_base h2 hB, hc, h4⟩ (fun a ha _ => hge a ha)
  subst e0
  rcases h2.2 with ⟨_, h0⟩ | ⟨g, cap, cur, h, _⟩
  · omega
  · simp at h

/-- **A contract out of a condition.** -/
theorem callOk_gen {G : List (Nat × Nat)} {fid : FuncId} {fn : Func} {F : List MBlk → List SV → Option AR} (hfn : P.funcs[fid]? = some fn) (hok : fnOk P fid)
    (hF : ∀ m vs ar, F m vs = some ar → (∀ p ∈ ar.pre, p) → ∃ (T : Tab) (_ : TabOk P T) (f : Nat → Nat) (m0 : List MBlk) (vs0 : List SV), (∀ ρ xs, DenL ρ vs xs → DenL ρ (renL f vs0) xs) ∧ ltL vs0 m0.length = true ∧ memOk m0 = true ∧
      (∀ i k0, m0[i]? = some k0 → ∃ k, m[f i]? = some k ∧ known k k0) ∧ (∀ g i, assoc T.globals g = some i → i < m0.length ∧ assoc G g = some (f i)) ∧
      ((ar.new = [] ∧ ar.sv.ltB 0 = true ∧ fnVc T fn vs0 m0 (plainIs ar.sv)) ∨ (∃ e N cols, 0 < cols.length ∧ ar.new = [.oarr e N cols] ∧ ar.sv = .sl m.length N ∧ fnVc T fn vs0 m0 (arrIs e N cols)))) : CallOk P G fid F := by
  refine ⟨hok, fun B ρ W m vs xs ar hGl hB hblk hf hd h hp => ?_⟩
  obtain ⟨T, hT, f, m0, vs0, h1, h2, h3, h4, h5, h6⟩ := hF m vs ar h hp
  have hG : ∀ g i, assoc T.globals g = some i → i < m0.length ∧ ∃ c, ρ (f i) = some (some ⟨g, 0, none⟩, c) := fun g i hg => ⟨(h5 g i hg).1, hGl g (f i) (h5 g i hg).2⟩
  rcases h6 with ⟨e1, e2, e3⟩ | ⟨e, N, cols, e0, e1, e2, e3⟩
  · have := post_plain (B := B) (ρ := ρ) (base := m.length) e2 (callee hT hfn hB hblk (h1 ρ xs hd) h2 h3 h4 hG e3)
    rw [e1]
    exact this
  · have := post_arr (B := B) (ρ := ρ) (base := m.length) e0 hB (callee hT hfn hB hblk (h1 ρ xs hd) h2 h3 h4 hG e3)
    rw [e1, e2]
    exact this

theorem DenL.conv {ρ : Env} {x y : SV} {xs ys : List SV} {vs : List Value} (h : DenL ρ (x :: xs) vs) (h1 : ∀ v, Den ρ x v → Den ρ y v) (h2 : ∀ vs, DenL ρ xs vs → DenL ρ ys vs) : DenL ρ (y :: ys) vs := by
  obtain ⟨v, us, rfl, e1, e2⟩ := h.inv
  exact DenL.cons (h1 v e1) (h2 us e2)
theorem Den.asB {ρ : Env} {x : SV} {b : Bool} {v : Value} (hb : Sx.bOf x = some b) (h : Den ρ x v) : Den ρ (.b b) v := by
  rw [h.bOf hb]; exact .b _
theorem Den.aggConv {ρ : Env} {xs ys : List SV} {v : Value} (h2 : ∀ vs, DenL ρ xs vs → DenL ρ ys vs) (h : Den ρ (.agg xs) v) : Den ρ (.agg ys) v := by
  obtain ⟨vs, rfl, hv⟩ := h.agg_inv
  have := h2 vs hv
  exact .agg this.1 this.2
end
end Go.Proofs.YtbhopcgbdofcjaaDoor.Sx
