/-
  A symbolic executor for the model's code: from a function's condition to its contract.
-/
import Derived.Test.YtiokmglajigngaaSu11
import Derived.ChangeArms
import Derived.LaidLaws
import Derived.Carry
import Derived.Below
import Derived.ChangeSame
import Derived.OpenShut
namespace Go.Proofs.Ytiokmglajigngaa.Sx
open Go Go.RowKit
mutual
/-- A value, its entries named otherwise. -/
def renSV (f : Nat → Nat) : SV → SV
  | .ptr r o => .ptr (f r) o
  | .pix r sz ix o => .pix (f r) sz ix o
  | .sl r n => .sl (f r) n
  | .sub r sz lo n => .sub (f r) sz lo n
  | .mp r => .mp (f r)
  | .agg xs => .agg (renL f xs)
  | .tup xs => .tup (renL f xs)
  | .fn g xs => .fn g (renL f xs)
  | x => x
def renL (f : Nat → Nat) : List SV → List SV
  | [] => []
  | x :: r => renSV f x :: renL f r
end
mutual
theorem renSV_den {f : Nat → Nat} {ρ : Env} : ∀ (x : SV) (v : Value), Den ρ (renSV f x) v → Den ⟨fun i => ρ (f i), ρ.S, ρ.T, ρ.X⟩ x v
  | .tt, v, h => by simp only [renSV] at h; rw [h.tt_inv]; exact .tt
  | .ff, v, h => by simp only [renSV] at h; rw [h.ff_inv]; exact .ff
  | .nilsl, v, h => by simp only [renSV] at h; cases h; exact .nilsl
  | .nilptr, v, h => by simp only [renSV] at h; cases h; exact .nilptr
  | .nilmap, v, h => by simp only [renSV] at h; cases h; exact .nilmap
  | .dead, v, _ => .dead v
  | .b x, v, h => by simp only [renSV] at h; rw [h.b_inv]; exact .b _
  | .i k n, v, h => by simp only [renSV] at h; rw [h.i_inv]; exact .i _ _
  | .ptr r o, v, h => by simp only [renSV] at h; cases h with | ptr h => exact .ptr h
  | .pix r sz ix o, v, h => by simp only [renSV] at h; cases h with | pix h => exact .pix h
  | .sl r n, v, h => by simp only [renSV] at h; cases h with | sl h h' => exact .sl h h'
  | .sub r sz lo n, v, h => by simp only [renSV] at h; cases h with | sub h h' => exact .sub h h'
  | .mp r, v, h => by simp only [renSV] at h; cases h with | mp h => exact .mp h
  | .agg xs, v, h => by
    simp only [renSV] at h
    obtain ⟨vs, rfl, hv⟩ := h.agg_inv
    have := renL_den xs vs hv
    exact .agg this.1 this.2
  | .tup xs, v, h => by
    simp only [renSV] at h
    obtain ⟨vs, rfl, hv⟩ := h.tup_inv
    have := renL_den xs vs hv
    exact .tup this.1 this.2
  | .fn g xs, v, h => by
    simp only [renSV] at h
    cases h with
    | fn h1 h2 =>
      have := renL_den xs _ ⟨h1, h2⟩
      exact .fn this.1 this.2
  | .v x, v, h => by simp only [renSV] at h; cases h; exact .v _
theorem renL_den {f : Nat → Nat} {ρ : Env} : ∀ (xs : List SV) (vs : List Value), DenL ρ (renL f xs) vs → DenL ⟨fun i => ρ (f i), ρ.S, ρ.T, ρ.X⟩ xs vs
  | [], vs, h => by simp only [renL] at h; rw [h.inv_nil]; exact DenL.nil _
  | x :: xs, vs, h => by
    simp only [renL] at h
    obtain ⟨w, ws, rfl, h1, h2⟩ := h.inv
    exact DenL.cons (renSV_den x w h1) (renL_den xs ws h2)
end
/-- What a callee knows of a caller's entry: it reads it only. -/
def known (k : MBlk) (k0 : MBlk) : Prop :=
  match k0 with
  | .arr n cols => ∃ cols', srcOf k = some (n, cols') ∧ colsEq n cols cols'
  | .old cs => k = .cells cs ∨ k = .old cs
  | .fmapp f => ∃ f', pairSet k = some f' ∧ ∀ x y, f' x y = f x y
  | .gone => True
  | _ => False
def kOk : MBlk → Prop
  | .arr _ cols => cols ≠ []
  | .old cs => ltL cs 0 = true
  | .fmapp _ => True
  | .gone => True
  | _ => False
section
variable {P : Program} {T : Tab}
theorem known_br {ρ σ : Env} {W : World} {r : Nat} {k k0 : MBlk} {i : Nat} (h : BR ρ W r k) (hS : ∀ g, ρ.S g → g < W.heap.size) (hf : ∀ y, ρ r = some y → σ i = some y) (hk : known k k0) (hc : kOk k0) (hσ : σ.S = fun g => g < W.heap.size) (hσR : σ.T = ρ.R) : BR σ W i k0 := by
  have hR : ∀ g, ρ.R g → σ.R g := fun g hg => ⟨by rw [hσ]; exact hS g hg.1, by rw [hσR]; exact hg⟩
  cases k0 with
  | gone => trivial
  | cells cs => exact hk.elim
  | oarr e n c => exact hk.elim
  | mapi _ _ _ => exact hk.elim
  | mapp _ => exact hk.elim
  | iterp _ _ => exact hk.elim
  | orows _ _ _ _ _ _ _ => exact hk.elim
  | fmapp f =>
    obtain ⟨f', hk, hfe⟩ := hk
    have : f' = f := funext fun x => funext fun y => hfe x y
    subst this
    cases k <;> simp only [pairSet] at hk <;> first | cases hk | skip
    · obtain ⟨g, es, clock, c, h1, h2, h3, h4⟩ := h
      exact ⟨g, es, clock, c, hf _ h1, by rw [hσ]; exact (Array.getElem?_eq_some_iff.1 h3).1, h3, h4⟩
    · obtain ⟨g, es, clock, c, h1, h2, h3, h4⟩ := h
      exact ⟨g, es, clock, c, hf _ h1, by rw [hσ]; exact (Array.getElem?_eq_some_iff.1 h3).1, h3, h4⟩
  | arr n cols0 =>
    simp only [known] at hk
    obtain ⟨cols, hk, hce⟩ := hk
    obtain ⟨ce1, ce2⟩ := colsEq_get hce
    have hρ : ∃ A c, ρ r = some (A, c) ∧ n ≤ c := by
      cases k <;> simp only [srcOf] at hk <;> first | cases hk | skip
      · obtain ⟨A, c, h1, hn0, _⟩ := h; exact ⟨A, c, h1, hn0⟩
      · obtain ⟨A, c, vs, h1, h2, _⟩ := h
        refine ⟨A, c, h1, ?_⟩
        rcases h2.2 with ⟨_, h0⟩ | ⟨g, cap, cur, h, _, _, hnc, _⟩
        · omega
        · simp only [Value.slice.injEq] at h; omega
    obtain ⟨A, c, h1, hn0⟩ := hρ
    refine ⟨A, c, hf _ h1, hn0, fun hn => ?_⟩
    obtain ⟨a, ha, h3⟩ := srcAt h hk h1 hn
    refine ⟨a, ha, ?_, fun j hj kk col hcol => ?_⟩
    · rw [hσ]
      cases k <;> simp only [srcOf] at hk <;> first | cases hk | skip
      · obtain ⟨A', c', h1', _, h2⟩ := h
        rw [h1] at h1'
        simp only [Option.some.injEq, Prod.mk.injEq] at h1'
        obtain ⟨rfl, rfl⟩ := h1'
        obtain ⟨a', ha', hs, _⟩ := h2 hn
        rw [ha] at ha'
        simp only [Option.some.injEq] at ha'
        subst ha'
        exact hS _ hs
      · exact (own_lt h rfl (by rw [h1, ha])).2
    · have hkk := (List.getElem?_eq_some_iff.1 hcol).1
      obtain ⟨v, hv, hd⟩ := h3 j hj kk _ (List.getElem?_eq_getElem (by omega))
      rw [ce1] at hv
      exact ⟨v, hv, colEq_den (ce2 kk col _ hcol (List.getElem?_eq_getElem (by omega))) hj (colDen_later hd hR (fun _ _ => rfl))⟩
  | old cs =>
    simp only [known] at hk
    simp only [kOk] at hc
    rcases hk with rfl | rfl
    · obtain ⟨g, t, vs, c, h1, h2, h3, h4⟩ := h
      refine ⟨⟨g, 0, none⟩, c, hf _ h1, by rw [hσ]; exact (Array.getElem?_eq_some_iff.1 h3).1, fun j x hx => ?_⟩
      obtain ⟨v, hv, hd⟩ := h4.get hx
      refine ⟨v, ?_, ltB_lies (ltL_get hc hx) (fun r y hr => by omega) hd⟩
      simp [World.cell?, Addr.add_lit, h3, hv]
    · obtain ⟨a, c, h1, h2, h3⟩ := h
      refine ⟨a, c, hf _ h1, by rw [hσ]; exact hS _ h2, fun j x hx => ?_⟩
      obtain ⟨v, hv, hd⟩ := h3 j x hx
      exact ⟨v, hv, ltB_lies (ltL_get hc hx) (fun r y hr => by omega) hd⟩
def memOk : List MBlk → Bool
  | [] => true
  | .arr _ cols :: r => !cols.isEmpty && memOk r
  | .old cs :: r => ltL cs 0 && memOk r
  | .fmapp _ :: r => memOk r
  | .gone :: r => memOk r
  | _ => false
theorem memOk_get {m : List MBlk} (h : memOk m = true) {i : Nat} {k0 : MBlk} (hk : m[i]? = some k0) : kOk k0 ∧ ownOf k0 = false := by
  induction m generalizing i with
  | nil => simp at hk
  | cons x r ih =>
    cases i with
    | zero =>
      simp at hk
      subst hk
      cases x <;> simp_all [memOk, ownOf, kOk]
    | succ i => exact ih (by cases x <;> simp_all [memOk]) (by simpa using hk)
/-- What a callee keeps to. -/
def calleeLim (ρ : Env) (W : World) : Lim := ⟨fun g => g < W.heap.size, ρ.R⟩
/-- A callee's entries: the caller's, or nil slices. -/
def pickEnv (f : Nat → Option Nat) (ρ : Env) : Env := ⟨fun i => match f i with
  | some r => ρ r
  | none => some (none, 0), ρ.S, ρ.T, ρ.X⟩
/-- What a callee's run gives, in the callee's own names. m0: what it knows; f: where its entries lie in the caller's list. -/
theorem callee {fid : FuncId} {fn : Func} {ρ : Env} {W : World} {m m0 : List MBlk} {vs0 : List SV} {xs : List Value} {f : Nat → Option Nat} {R : SV → List MBlk → Prop} (hT : TabOk P T) (hfn : P.funcs[fid]? = some fn) (hS : ∀ g, ρ.S g → g < W.heap.size)
    (hblk : ∀ r k, m[r]? = some k → ρ r ≠ none → BR ρ W r k) (hd : DenL (pickEnv f ρ) vs0 xs) (hlt : ltL vs0 m0.length = true) (hok : memOk m0 = true) (hkn : ∀ i k0, m0[i]? = some k0 → (∃ r k, f i = some r ∧ m[r]? = some k ∧ known k k0) ∨ (f i = none ∧ ∃ cols, k0 = .arr 0 cols))
    (hG : ∀ g i, assoc T.globals g = some i → i < m0.length ∧ ∃ c, (pickEnv f ρ) i = some (some ⟨g, 0, none⟩, c)) (hpin : T.pins = []) (hv : fnVc T fn vs0 m0 R) :
    Calls P fid xs.toArray W (fun e W' => ∃ v ρ' m' sv, e = .returned v ∧ Den ρ' sv v ∧ MR (calleeLim ρ W) W W' ρ' m' ∧ R sv m') := by
  let σ : Env := ⟨fun i => if i < m0.length then (pickEnv f ρ) i else none, fun g => g < W.heap.size, ρ.R, fun _ _ => False⟩
  have hσ : ∀ i y, i < m0.length → (pickEnv f ρ) i = some y → σ i = some y := fun i y hi hy => by simp only [σ, if_pos hi]; exact hy
  have hσ2 : ∀ i, σ i ≠ none → i < m0.length ∧ (pickEnv f ρ) i ≠ none := fun i hi => by
    simp only [σ] at hi
    split at hi
    · rename_i h; exact ⟨h, hi⟩
    · exact absurd rfl hi
  refine Calls.mono (fn_calls (B := calleeLim ρ W) (w0 := W) (ρ := σ) hT hfn hv ⟨fun g hg => hg, fun g hg => .inl hg.2, fun g hg => hg, .refl _ _, fun i k0 hk hne => ?_, fun i hi => (hσ2 i hi).1, fun _ _ h => h.elim, fun _ _ _ h => h.elim, fun _ _ _ _ _ _ h => h.elim, fun r s k l a b c d hk _ ho => ?_⟩ ⟨fun g i hg => ?_, fun p hp => ?_⟩ ⟨hd.1, fun j x v hx hv => ltB_lies (ltL_get hlt hx) (fun r y hr hy => hσ r y hr hy) (hd.2 j x v hx hv)⟩) fun e W' ⟨v, ρ', m', sv, h1, h2, h3, h4, _⟩ => ⟨v, ρ', m', sv, h1, h2, h3, h4⟩
  · obtain ⟨hi, hne'⟩ := hσ2 i hne
    rcases hkn i k0 hk with ⟨r, k, hf, hk', hkn'⟩ | ⟨hf, cols, rfl⟩
    · have he : (pickEnv f ρ) i = ρ r := by simp only [pickEnv, hf]
      exact known_br (hblk r k hk' (by rw [← he]; exact hne')) hS (fun y hy => hσ i y hi (by rw [he]; exact hy)) hkn' (memOk_get hok hk).1 rfl rfl
    · exact ⟨none, 0, hσ i _ hi (by simp only [pickEnv, hf]), Nat.le_refl _, fun h => absurd h (Nat.lt_irrefl _)⟩
  · rw [(memOk_get hok hk).2] at ho
    cases ho
  · obtain ⟨hi, c, hc⟩ := hG g i hg
    exact ⟨c, hσ i _ hi hc⟩
  · rw [hpin] at hp; cases hp
/-- A function that gives a plain value. -/
def plainIs (x : SV) : SV → List MBlk → Prop := fun sv _ => veq x sv
theorem Keeps.callee {ρ ρ' : Env} {W W' : World} {m' : List MBlk} (hm : MR (calleeLim ρ W) W W' ρ' m') : Below W.heap.size W W' := hm.below.below
theorem post_plain {ρ : Env} {W : World} {base : Nat} {x : SV} (hx : x.ltB 0 = true) {fid : FuncId} {xs : Array Value} (h : Calls P fid xs W (fun e W' => ∃ v ρ' m' sv, e = .returned v ∧ Den ρ' sv v ∧ MR (calleeLim ρ W) W W' ρ' m' ∧ plainIs x sv m')) :
    Calls P fid xs W (fun e W' => ∃ v, e = .returned v ∧ StepPost ρ W base x [] v W') :=
  Calls.mono h fun e W' ⟨v, ρ', m', sv, he, hd, hm, hx'⟩ => ⟨v, he, Keeps.callee hm, ρ, fun _ _ => rfl, .refl _ _ _, ltB_lies hx (fun r y hr => by omega) (veq_den _ _ _ hx' hd), .nil _ _ _ _⟩
mutual
/-- A result against its template: the template's slice is entry q; nil, where there is none. -/
def tveq (q : Option Nat) : SV → SV → Prop
  | .sl _ n, y => match y with
    | .sl r n' => (match q with
      | some q => bif Nat.beq q r then n' = n else False
      | none => False)
    | .nilsl => (match q with
      | some _ => False
      | none => n = 0)
    | _ => False
  | .agg xs, y => match y with
    | .agg ys => tveqL q xs ys
    | _ => False
  | .tup xs, y => match y with
    | .tup ys => tveqL q xs ys
    | _ => False
  | x, y => veq x y
def tveqL (q : Option Nat) : List SV → List SV → Prop
  | [], [] => True
  | x :: xs, y :: ys => tveq q x y ∧ tveqL q xs ys
  | _, _ => False
end
mutual
/-- The slice that a result holds. -/
def SV.slOf : SV → Option Nat
  | .sl r _ => some r
  | .agg xs => slOfL xs
  | .tup xs => slOfL xs
  | _ => none
def slOfL : List SV → Option Nat
  | [] => none
  | x :: r => match SV.slOf x with
    | some q => some q
    | none => slOfL r
end
mutual
/-- The template with its slice's entry. -/
def tinst (b : Nat) : SV → SV
  | .sl _ n => .sl b n
  | .agg xs => .agg (tinstL b xs)
  | .tup xs => .tup (tinstL b xs)
  | x => x
def tinstL (b : Nat) : List SV → List SV
  | [] => []
  | x :: r => tinst b x :: tinstL b r
end
mutual
def tOk : SV → Bool
  | .sl _ _ => true
  | .agg xs => tOkL xs
  | .tup xs => tOkL xs
  | x => x.ltB 0
def tOkL : List SV → Bool
  | [] => true
  | x :: r => tOk x && tOkL r
end
/-- A function that gives a value with one new slice in it. -/
def resIs (t : SV) (e N : Nat) (cols : List Col) : SV → List MBlk → Prop := fun sv m => match SV.slOf sv with
  | some r => (match nth m r with
    | some (.oarr e' n' cols') => bif Nat.beq e e' then n' = N ∧ colsEq N cols cols' ∧ tveq (some r) t sv else False
    | some (.orows e' _ n' none _ len gs) => bif Nat.beq e e' then n' = N ∧ colsEq N cols [.rows len gs] ∧ tveq (some r) t sv else False
    | _ => False)
  | none => N = 0 ∧ tveq none t sv
mutual
theorem slOf_den {ρ : Env} {r : Nat} : ∀ (x : SV) (v : Value), SV.slOf x = some r → Den ρ x v → ∃ y, ρ r = some y
  | .sl q n, v, h, hd => by
    simp only [SV.slOf, Option.some.injEq] at h
    subst h
    obtain ⟨A, c, h1, _⟩ := hd.sl_inv
    exact ⟨_, h1⟩
  | .agg xs, v, h, hd => by
    simp only [SV.slOf] at h
    obtain ⟨vs, rfl, hv⟩ := hd.agg_inv
    exact slOfL_den xs vs h hv
  | .tup xs, v, h, hd => by
    simp only [SV.slOf] at h
    obtain ⟨vs, rfl, hv⟩ := hd.tup_inv
    exact slOfL_den xs vs h hv
  | .tt, _, h, _ => by simp [SV.slOf] at h
  | .ff, _, h, _ => by simp [SV.slOf] at h
  | .nilsl, _, h, _ => by simp [SV.slOf] at h
  | .nilptr, _, h, _ => by simp [SV.slOf] at h
  | .nilmap, _, h, _ => by simp [SV.slOf] at h
  | .dead, _, h, _ => by simp [SV.slOf] at h
  | .b _, _, h, _ => by simp [SV.slOf] at h
  | .i _ _, _, h, _ => by simp [SV.slOf] at h
  | .ptr _ _, _, h, _ => by simp [SV.slOf] at h
  | .pix _ _ _ _, _, h, _ => by simp [SV.slOf] at h
  | .sub _ _ _ _, _, h, _ => by simp [SV.slOf] at h
  | .mp _, _, h, _ => by simp [SV.slOf] at h
  | .fn _ _, _, h, _ => by simp [SV.slOf] at h
  | .v _, _, h, _ => by simp [SV.slOf] at h
theorem slOfL_den {ρ : Env} {r : Nat} : ∀ (xs : List SV) (vs : List Value), slOfL xs = some r → DenL ρ xs vs → ∃ y, ρ r = some y
  | [], vs, h, _ => by simp [slOfL] at h
  | x :: xs, vs, h, hd => by
    obtain ⟨v, ws, rfl, h1, h2⟩ := hd.inv
    simp only [slOfL] at h
    split at h
    · rename_i q hq
      simp only [Option.some.injEq] at h
      subst h
      exact slOf_den x v hq h1
    · exact slOfL_den xs ws h h2
end
section
variable {ρ' σ : Env} {base : Nat}
theorem leaf_den {x y : SV} {v : Value} (hx : x.ltB 0 = true) (h : veq x y) (hd : Den ρ' y v) : Den σ x v := ltB_lies hx (fun r y hr => by omega) (veq_den _ _ _ h hd)
mutual
theorem tveq_den {q : Option Nat} {z : Option Addr × Nat} (hb : σ base = some z) (hq : (∃ r, q = some r ∧ ρ' r = some z) ∨ (q = none ∧ z = (none, 0))) : ∀ (t y : SV) (v : Value), tOk t = true → tveq q t y → Den ρ' y v → Den σ (tinst base t) v
  | .sl _ n, y, v, _, h, hd => by
    simp only [tveq] at h
    split at h
    · rename_i r n'
      split at h
      · rename_i q0
        rcases hq with ⟨r', e, hr⟩ | ⟨e, _⟩
        · simp only [Option.some.injEq] at e
          subst e
          cases hbq : Nat.beq q0 r
          · simp [hbq] at h
          · simp only [hbq, cond_true] at h
            obtain rfl := Nat.eq_of_beq_eq_true hbq
            subst h
            obtain ⟨A, c, h1, rfl, h2⟩ := hd.sl_inv
            rw [hr] at h1
            simp only [Option.some.injEq] at h1
            subst h1
            exact .sl hb h2
        · cases e
      · exact h.elim
    · split at h
      · exact h.elim
      · rcases hq with ⟨r', e, hr⟩ | ⟨_, e⟩
        · cases e
        · subst e h
          cases hd
          exact .sl hb (fun h => absurd h (Nat.lt_irrefl _))
    · exact h.elim
  | .agg xs, y, v, ht, h, hd => by
    simp only [tveq] at h
    split at h
    · obtain ⟨vs, rfl, hv⟩ := hd.agg_inv
      have := tveqL_den hb hq xs _ vs (by simpa [tOk] using ht) h hv
      exact .agg this.1 this.2
    · exact h.elim
  | .tup xs, y, v, ht, h, hd => by
    simp only [tveq] at h
    split at h
    · obtain ⟨vs, rfl, hv⟩ := hd.tup_inv
      have := tveqL_den hb hq xs _ vs (by simpa [tOk] using ht) h hv
      exact .tup this.1 this.2
    · exact h.elim
  | .tt, y, v, ht, h, hd => by simp only [tinst]; exact leaf_den (by simpa [tOk] using ht) (by simpa only [tveq] using h) hd
  | .ff, y, v, ht, h, hd => by simp only [tinst]; exact leaf_den (by simpa [tOk] using ht) (by simpa only [tveq] using h) hd
  | .nilsl, y, v, ht, h, hd => by simp only [tinst]; exact leaf_den (by simpa [tOk] using ht) (by simpa only [tveq] using h) hd
  | .nilptr, y, v, ht, h, hd => by simp only [tinst]; exact leaf_den (by simpa [tOk] using ht) (by simpa only [tveq] using h) hd
  | .nilmap, y, v, ht, h, hd => by simp only [tinst]; exact leaf_den (by simpa [tOk] using ht) (by simpa only [tveq] using h) hd
  | .dead, y, v, ht, h, hd => by simp only [tinst]; exact .dead _
  | .b _, y, v, ht, h, hd => by simp only [tinst]; exact leaf_den (by simpa [tOk] using ht) (by simpa only [tveq] using h) hd
  | .i _ _, y, v, ht, h, hd => by simp only [tinst]; exact leaf_den (by simpa [tOk] using ht) (by simpa only [tveq] using h) hd
  | .ptr _ _, y, v, ht, h, hd => by simp only [tinst]; exact leaf_den (by simpa [tOk] using ht) (by simpa only [tveq] using h) hd
  | .pix _ _ _ _, y, v, ht, h, hd => by simp only [tinst]; exact leaf_den (by simpa [tOk] using ht) (by simpa only [tveq] using h) hd
  | .sub _ _ _ _, y, v, ht, h, hd => by simp only [tinst]; exact leaf_den (by simpa [tOk] using ht) (by simpa only [tveq] using h) hd
  | .mp _, y, v, ht, h, hd => by simp only [tinst]; exact leaf_den (by simpa [tOk] using ht) (by simpa only [tveq] using h) hd
  | .fn _ _, y, v, ht, h, hd => by simp only [tinst]; exact leaf_den (by simpa [tOk] using ht) (by simpa only [tveq] using h) hd
  | .v _, y, v, ht, h, hd => by simp only [tinst]; exact leaf_den (by simpa [tOk] using ht) (by simpa only [tveq] using h) hd
theorem tveqL_den {q : Option Nat} {z : Option Addr × Nat} (hb : σ base = some z) (hq : (∃ r, q = some r ∧ ρ' r = some z) ∨ (q = none ∧ z = (none, 0))) : ∀ (ts ys : List SV) (vs : List Value), tOkL ts = true → tveqL q ts ys → DenL ρ' ys vs → DenL σ (tinstL base ts) vs
  | [], [], vs, _, _, hd => by rw [hd.inv_nil]; exact DenL.nil _
  | t :: ts, y :: ys, vs, ht, h, hd => by
    obtain ⟨v, ws, rfl, h1, h2⟩ := hd.inv
    simp only [tveqL] at h
    simp only [tOkL, Bool.and_eq_true] at ht
    exact DenL.cons (tveq_den hb hq t y v ht.1 h.1 h1) (tveqL_den hb hq ts ys ws ht.2 h.2 h2)
  | [], _ :: _, _, _, h, _ => by simp only [tveqL] at h
  | _ :: _, [], _, _, h, _ => by simp only [tveqL] at h
end
end
theorem post_res {ρ : Env} {W : World} {base e N : Nat} {cols : List Col} {t : SV} (ht : tOk t = true) (hc : 0 < cols.length) (hS : ∀ g, ρ.S g → g < W.heap.size) {fid : FuncId} {xs : Array Value} (h : Calls P fid xs W (fun ex W' => ∃ v ρ' m' sv, ex = .returned v ∧ Den ρ' sv v ∧ MR (calleeLim ρ W) W W' ρ' m' ∧ resIs t e N cols sv m')) :
    Calls P fid xs W (fun ex W' => ∃ v, ex = .returned v ∧ StepPost ρ W base (tinst base t) [.oarr e N cols] v W') := by
  refine Calls.mono h fun ex W' ⟨v, ρ', m', sv, he, hd, hm, hx'⟩ => ⟨v, he, Keeps.callee hm, ?_⟩
  have key : ∃ z vs, ∃ R' : Nat → Prop, (∀ g, ρ'.R g → R' g) ∧ (∀ g, R' g → ρ'.R g ∨ (W.heap.size ≤ g ∧ g < W'.heap.size)) ∧ ((∃ r, SV.slOf sv = some r ∧ ρ' r = some z) ∨ (SV.slOf sv = none ∧ z = (none, 0))) ∧ tveq (SV.slOf sv) t sv ∧ W'.ownsRow 0 e cols.length (.slice z.1 N z.2) N vs ∧ (∀ a, z.1 = some a → ¬ ρ'.S a.block ∧ ¬ R' a.block) ∧ ∀ j, j < N → ∀ k col, cols[k]? = some col → ∃ u, vs[j * cols.length + k]? = some u ∧ colDen R' W' col j u := by
    unfold resIs at hx'
    split at hx'
    · rename_i r hr
      split at hx'
      · rename_i e' n' cols' hk
        cases hee : Nat.beq e e'
        · simp [hee] at hx'
        · simp only [hee, cond_true] at hx'
          obtain ⟨rfl, hcc, htv⟩ := hx'
          obtain rfl := Nat.eq_of_beq_eq_true hee
          obtain ⟨y, hy⟩ := slOf_den sv v hr hd
          obtain ⟨A, c, vs, h1, h2, h3, h4, h5⟩ := hm.blk r _ (by rw [← nth_eq]; exact hk) (by rw [hy]; simp)
          obtain ⟨e1, e2⟩ := colsEq_get hcc
          rw [e1] at h2 h5
          refine ⟨(A, c), vs, ρ'.R, fun _ h => h, fun _ h => .inl h, .inl ⟨r, hr, h1⟩, by rw [hr]; exact htv, h2, fun a ha => ⟨h3 a ha, fun h => h3 a ha h.1⟩, fun j hj k col hkc => ?_⟩
          have hk' := (List.getElem?_eq_some_iff.1 hkc).1
          obtain ⟨u, hu, hdu⟩ := h5 j hj k _ (List.getElem?_eq_getElem (by omega))
          exact ⟨u, hu, colEq_den (e2 k col _ hkc (List.getElem?_eq_getElem (by omega))) hj hdu⟩
      · rename_i e' q' n' lk len gs hk
        cases hee : Nat.beq e e'
        · simp [hee] at hx'
        · simp only [hee, cond_true] at hx'
          obtain ⟨rfl, hcc, htv⟩ := hx'
          obtain rfl := Nat.eq_of_beq_eq_true hee
          obtain ⟨y, hy⟩ := slOf_den sv v hr hd
          have hkr := nthM hk
          obtain ⟨A, c, vs, h1, h2, h3, h4, h5, h6, _⟩ := hm.blk r _ hkr (by rw [hy]; simp)
          obtain ⟨e1, e2⟩ := colsEq_get hcc
          have e1 : cols.length = 1 := by simpa using e1.symm
          refine ⟨(A, c), vs, fun g => ρ'.R g ∨ ρ'.X r g, fun _ h => .inl h, fun g h => ?_, .inl ⟨r, hr, h1⟩, by rw [hr]; exact htv, by rw [e1]; exact h2, fun a ha => ⟨h3 a ha, fun h => ?_⟩, fun j hj k col hkc => ?_⟩
          · rcases h with h | h
            · exact .inl h
            · obtain ⟨_, x2, x3⟩ := hm.xlt r g h
              exact .inr ⟨Nat.le_of_not_lt fun hlt => x2 (hm.sub g hlt), x3⟩
          · rcases h with h | h
            · exact h3 a ha h.1
            · exact hm.xown r _ r _ a c h hkr rfl (by rw [h1, show A = some a from ha]) rfl
          · have hk' := (List.getElem?_eq_some_iff.1 hkc).1
            have hk0 : k = 0 := by omega
            subst hk0
            obtain ⟨B, d, us, f1, f2, f3, f4⟩ := h5 j hj (by simp)
            refine ⟨_, by rw [e1]; simpa using f1, colEq_den (e2 0 col _ hkc rfl) hj ⟨B, d, rfl, ?_, fun h0 => ?_⟩⟩
            · rcases f2.2 with ⟨_, h0⟩ | ⟨g, cap, cur, h, _, _, hnc, _⟩
              · omega
              · simp only [Value.slice.injEq] at h; omega
            · rcases f2.2 with ⟨_, h0'⟩ | ⟨g, cap, cur, h, _⟩
              · omega
              · simp only [Value.slice.injEq] at h
                refine ⟨⟨g, 0, none⟩, h.1, .inr (f3 _ h.1), fun i hi k g' hg' => ?_⟩
                exact f2.cells (by rw [h.1]; rfl) _ _ (f4 i hi k g' hg')
      · exact hx'.elim
    · rename_i hr
      obtain ⟨rfl, htv⟩ := hx'
      exact ⟨(none, 0), [], ρ'.R, fun _ h => h, fun _ h => .inl h, .inr ⟨hr, rfl⟩, by rw [hr]; exact htv, ⟨by simp, .inl ⟨rfl, rfl⟩⟩, fun a ha => (by cases ha), fun j hj => absurd hj (Nat.not_lt_zero _)⟩
  obtain ⟨z, vs, R', hRR, hR2, hz, htv, hown, hnoS, hcol⟩ := key
  let σ : Env := ⟨fun s => if s = base then some z else ρ s, fun g => ρ.S g ∨ (R' g ∧ W.heap.size ≤ g), fun g => ρ.T g ∨ (R' g ∧ W.heap.size ≤ g), ρ.X⟩
  have hσb : σ base = some z := by simp [σ]
  have hge : ∀ a, z.1 = some a → W.heap.size ≤ a.block := fun a ha => Nat.le_of_not_lt fun hlt => (hnoS a ha).1 (hm.sub _ hlt)
  have hRle : ∀ g, R' g → σ.R g := fun g hg => by
    by_cases hlt : W.heap.size ≤ g
    · exact ⟨.inr ⟨hg, hlt⟩, .inr ⟨hg, hlt⟩⟩
    · rcases hR2 g hg with h | h
      · rcases hm.rows g h with h | h
        · exact ⟨.inl h.1, .inl h.2⟩
        · exact absurd (Nat.le_of_not_lt h) hlt
      · exact absurd h.1 hlt
  refine ⟨σ, fun r hr => ?_, ⟨fun g h => .inl h, fun g h => ?_, fun g h => .inl h, fun g h => ?_, rfl⟩, tveq_den hσb hz t sv v ht htv hd, ⟨fun j b hj _ => ?_, fun j b a c hj ho hx => ?_, fun j l b d a c x y hj hl _ _ _ _ _ => ?_⟩⟩
  · have hne : r ≠ base := by intro e; simp at hr; omega
    simp only [σ, if_neg hne]
  · rcases h with h | h
    · exact .inl h
    · refine .inr ⟨h.2, ?_⟩
      rcases hR2 g h.1 with h' | h'
      · exact hm.hS g h'.1
      · exact h'.2
  · rcases h with ⟨h1 | h1, h2 | h2⟩
    · exact .inl ⟨h1, h2⟩
    · exact .inr h2.2
    · exact .inr h1.2
    · exact .inr h1.2
  · have : j = 0 := by have := (List.getElem?_eq_some_iff.1 hj).1; simpa using this
    subst this
    simp at hj
    subst hj
    refine ⟨z.1, z.2, vs, hσb, hown, fun a ha hs => ?_, hc, fun j hj k col hk => ?_⟩
    · rcases hs with hs | hs
      · have h1 := hS _ hs; have h2 := hge a ha; omega
      · exact (hnoS a ha).2 hs.1
    · obtain ⟨u, hu, hdu⟩ := hcol j hj k col hk
      exact ⟨u, hu, colDen_later hdu hRle (fun _ _ => rfl)⟩
  · have : j = 0 := by have := (List.getElem?_eq_some_iff.1 hj).1; simpa using this
    subst this
    simp only [Nat.add_zero, hσb, Option.some.injEq] at hx
    exact hge a (by rw [hx])
  · have h1 := (List.getElem?_eq_some_iff.1 hj).1
    have h2 := (List.getElem?_eq_some_iff.1 hl).1
    simp at h1 h2
    omega
/-- A function that gives a new map of pairs. -/
def resMap (f : Int → Int → Bool) : SV → List MBlk → Prop := fun sv m => match sv with
  | .mp r => (match nth m r with
    | some (.mapp f') => ∀ x y, f' x y = f x y
    | _ => False)
  | _ => False
theorem post_map {ρ : Env} {W : World} {base : Nat} {f : Int → Int → Bool} (hS : ∀ g, ρ.S g → g < W.heap.size) {fid : FuncId} {xs : Array Value} (h : Calls P fid xs W (fun ex W' => ∃ v ρ' m' sv, ex = .returned v ∧ Den ρ' sv v ∧ MR (calleeLim ρ W) W W' ρ' m' ∧ resMap f sv m')) :
    Calls P fid xs W (fun ex W' => ∃ v, ex = .returned v ∧ StepPost ρ W base (.mp base) [.mapp f] v W') := by
  refine Calls.mono h fun ex W' ⟨v, ρ', m', sv, he, hd, hm, hx'⟩ => ⟨v, he, Keeps.callee hm, ?_⟩
  unfold resMap at hx'
  split at hx'
  · rename_i r
    split at hx'
    · rename_i f' hk
      have hff : f' = f := funext fun x => funext fun y => hx' x y
      subst hff
      have hkr := nthM hk
      obtain ⟨g, c, hρ, rfl⟩ := hd.mp_inv
      have hb := hm.blk r _ hkr (by rw [hρ]; simp)
      have hge : W.heap.size ≤ g := Nat.le_of_not_lt fun hlt => (own_lt hb rfl hρ).1 (hm.sub _ hlt)
      obtain ⟨g', es, clock, c', h1, h2, h3, h4⟩ := hb
      rw [hρ] at h1
      simp only [Option.some.injEq, Prod.mk.injEq, Addr.mk.injEq, and_true] at h1
      obtain ⟨rfl, rfl⟩ := h1
      refine ⟨ρ.with base (some ⟨g, 0, none⟩, c), fun r hr => Env.with_ne _ _ (by intro e; simp at hr; omega), .with _ _ _ _ _, .mp (Env.with_same _ _ _), ⟨fun j b hj _ => ?_, fun j b a c hj ho hx => ?_, fun j l b d a c x y hj hl _ _ _ _ _ => ?_⟩⟩
      · have : j = 0 := by have := (List.getElem?_eq_some_iff.1 hj).1; simpa using this
        subst this
        simp at hj
        subst hj
        exact ⟨g, es, clock, c, Env.with_same _ _ _, fun hs => by have := hS _ hs; omega, h3, h4⟩
      · have : j = 0 := by have := (List.getElem?_eq_some_iff.1 hj).1; simpa using this
        subst this
        simp only [Nat.add_zero, Env.with_same, Option.some.injEq, Prod.mk.injEq] at hx
        rw [← hx.1]
        exact hge
      · have h1 := (List.getElem?_eq_some_iff.1 hj).1
        have h2 := (List.getElem?_eq_some_iff.1 hl).1
        simp at h1 h2
        omega
    · exact hx'.elim
  · exact hx'.elim
/-- What such a condition's end says of the result. -/
def PostTo (R : SV → List MBlk → Prop) (t : Nat → SV) (new : List MBlk) : Prop :=
  ∀ (ρ : Env) (W W' : World) (base : Nat) (v : Value) (ρ' : Env) (m' : List MBlk) (sv : SV), (∀ g, ρ.S g → g < W.heap.size) → Den ρ' sv v → MR (calleeLim ρ W) W W' ρ' m' → R sv m' → StepPost ρ W base (t base) new v W'
/-- A function that gives a new map of numbers, and a plain value beside it. -/
def resMapi (k : IntKind) (k' : Option IntKind) (f : Int → Option Int) (x : SV) : SV → List MBlk → Prop := fun sv m => match sv with
  | .tup [.mp r, y] => veq x y ∧ (match nth m r with
    | some (.mapi k2 k2' f') => bif kEq k2 k && oEq k2' k' then (∀ j, f' j = f j) else False
    | _ => False)
  | _ => False
theorem post_mapi {k : IntKind} {k' : Option IntKind} {f : Int → Option Int} {x : SV} (hx0 : x.ltB 0 = true) : PostTo (resMapi k k' f x) (fun base => .tup [.mp base, x]) [.mapi k k' f] := fun ρ W W' base v ρ' m' sv hS hd hm hx' => by
  refine ⟨Keeps.callee hm, ?_⟩
  unfold resMapi at hx'
  split at hx'
  · rename_i r y
    obtain ⟨hxy, hx'⟩ := hx'
    split at hx'
    · rename_i k2 k2' f' hk
      cases hkk : (kEq k2 k && oEq k2' k')
      · rw [hkk] at hx'; exact hx'.elim
      rw [hkk] at hx'
      simp only [cond_true] at hx'
      simp only [Bool.and_eq_true] at hkk
      obtain rfl := kEq_iff.1 hkk.1
      obtain rfl := oEq_iff.1 hkk.2
      have hff : f' = f := funext fun x => hx' x
      subst hff
      have hkr := nthM hk
      obtain ⟨vs, rfl, hvs⟩ := hd.tup_inv
      obtain ⟨u, us, rfl, hdm, hvs⟩ := hvs.inv
      obtain ⟨u2, us2, rfl, hdy, hvs⟩ := hvs.inv
      obtain rfl := hvs.inv_nil
      have hdx : ∀ σ, Den σ x u2 := fun σ => ltB_lies hx0 (fun r y hr => by omega) (veq_den _ _ _ hxy hdy)
      obtain ⟨g, c, hρ, rfl⟩ := hdm.mp_inv
      have hb := hm.blk r _ hkr (by rw [hρ]; simp)
      have hge : W.heap.size ≤ g := Nat.le_of_not_lt fun hlt => (own_lt hb rfl hρ).1 (hm.sub _ hlt)
      obtain ⟨g', es, clock, c', h1, h2, h3, h4⟩ := hb
      rw [hρ] at h1
      simp only [Option.some.injEq, Prod.mk.injEq, Addr.mk.injEq, and_true] at h1
      obtain ⟨rfl, rfl⟩ := h1
      have hl : DenL (ρ.with base (some ⟨g, 0, none⟩, c)) [.mp base, x] [.map (some g), u2] := DenL.cons (.mp (Env.with_same _ _ _)) (DenL.cons (hdx _) (DenL.nil _))
      refine ⟨ρ.with base (some ⟨g, 0, none⟩, c), fun r hr => Env.with_ne _ _ (by intro e; simp at hr; omega), .with _ _ _ _ _, .tup hl.1 hl.2, ⟨fun j b hj _ => ?_, fun j b a c hj ho hx => ?_, fun j l b d a c x y hj hl _ _ _ _ _ => ?_⟩⟩
      · have : j = 0 := by have := (List.getElem?_eq_some_iff.1 hj).1; simpa using this
        subst this
        simp at hj
        subst hj
        exact ⟨g, es, clock, c, Env.with_same _ _ _, fun hs => by have := hS _ hs; omega, h3, h4⟩
      · have : j = 0 := by have := (List.getElem?_eq_some_iff.1 hj).1; simpa using this
        subst this
        simp only [Nat.add_zero, Env.with_same, Option.some.injEq, Prod.mk.injEq] at hx
        rw [← hx.1]
        exact hge
      · have h1 := (List.getElem?_eq_some_iff.1 hj).1
        have h2 := (List.getElem?_eq_some_iff.1 hl).1
        simp at h1 h2
        omega
    · exact hx'.elim
  · exact hx'.elim
/-- A function that gives two values and, between them, a struct of two slices and a value: the second slice is new. -/
def resTwo (x y z : SV) (e N : Nat) (cols : List Col) : SV → List MBlk → Prop := fun sv m => match sv with
  | .tup [x', .agg [.sl r2 n2, .sl r n, z'], y'] => veq x x' ∧ veq y y' ∧ veq z z' ∧ n2 = N ∧ n = N ∧ (match nth m r with
    | some (.oarr e' n' cols') => bif Nat.beq e e' then n' = N ∧ colsEq N cols cols' else False
    | _ => False)
  | _ => False
theorem post_two {x y z : SV} {e N : Nat} {cols : List Col} (hx0 : x.ltB 0 = true) (hy0 : y.ltB 0 = true) (hz0 : z.ltB 0 = true) (hc : 0 < cols.length) : PostTo (resTwo x y z e N cols) (fun base => .tup [x, .agg [.sl (base + 1) N, .sl base N, z], y]) [.oarr e N cols, .gone] := fun ρ W W' base v ρ' m' sv hS hd hm hx' => by
  refine ⟨Keeps.callee hm, ?_⟩
  unfold resTwo at hx'
  split at hx'
  · rename_i x' r2 n2 r n z' y'
    obtain ⟨hxx, hyy, hzz, hn2, rfl, hx'⟩ := hx'
    subst hn2
    split at hx'
    · rename_i e' n' cols' hk
      cases hee : Nat.beq e e'
      · simp [hee] at hx'
      · simp only [hee, cond_true] at hx'
        obtain ⟨rfl, hcc⟩ := hx'
        obtain rfl := Nat.eq_of_beq_eq_true hee
        obtain ⟨vs, rfl, hvs⟩ := hd.tup_inv
        obtain ⟨u1, us, rfl, hd1, hvs⟩ := hvs.inv
        obtain ⟨u2, us, rfl, hd2, hvs⟩ := hvs.inv
        obtain ⟨u3, us, rfl, hd3, hvs⟩ := hvs.inv
        obtain rfl := hvs.inv_nil
        obtain ⟨ws, rfl, hws⟩ := hd2.agg_inv
        obtain ⟨w1, us, rfl, he1, hws⟩ := hws.inv
        obtain ⟨w2, us, rfl, he2, hws⟩ := hws.inv
        obtain ⟨w3, us, rfl, he3, hws⟩ := hws.inv
        obtain rfl := hws.inv_nil
        have leaf : ∀ {x y : SV} {v : Value} (σ : Env), x.ltB 0 = true → veq x y → Den ρ' y v → Den σ x v := fun σ hx h hd => ltB_lies hx (fun r y hr => by omega) (veq_den _ _ _ h hd)
        obtain ⟨A, c, hz, rfl, hA0⟩ := he2.sl_inv
        obtain ⟨A2, c2, hz2, rfl, hA2⟩ := he1.sl_inv
        obtain ⟨A', c', vs, h1, h2, h3, h4, h5⟩ := hm.blk r _ (nthM hk) (by rw [hz]; simp)
        rw [hz] at h1
        simp only [Option.some.injEq, Prod.mk.injEq] at h1
        obtain ⟨rfl, rfl⟩ := h1
        obtain ⟨e1, e2⟩ := colsEq_get hcc
        rw [e1] at h2 h5
        have hnoS : ∀ a, A = some a → ¬ ρ'.S a.block ∧ ¬ ρ'.R a.block := fun a ha => ⟨h3 a ha, fun h => h3 a ha h.1⟩
        have hcol : ∀ j, j < n' → ∀ k col, cols[k]? = some col → ∃ u, vs[j * cols.length + k]? = some u ∧ colDen ρ'.R W' col j u := fun j hj k col hkc => by
          have hk' := (List.getElem?_eq_some_iff.1 hkc).1
          obtain ⟨u, hu, hdu⟩ := h5 j hj k _ (List.getElem?_eq_getElem (by omega))
          exact ⟨u, hu, colEq_den (e2 k col _ hkc (List.getElem?_eq_getElem (by omega))) hj hdu⟩
        let σ : Env := ⟨fun s => if s = base then some (A, c) else if s = base + 1 then some (A2, c2) else ρ s, fun g => ρ.S g ∨ (ρ'.R g ∧ W.heap.size ≤ g), fun g => ρ.T g ∨ (ρ'.R g ∧ W.heap.size ≤ g), ρ.X⟩
        have hσb : σ base = some (A, c) := by simp [σ]
        have hσb2 : σ (base + 1) = some (A2, c2) := by simp [σ]
        have hge : ∀ a, A = some a → W.heap.size ≤ a.block := fun a ha => Nat.le_of_not_lt fun hlt => (hnoS a ha).1 (hm.sub _ hlt)
        have hRle : ∀ g, ρ'.R g → σ.R g := fun g hg => by
          by_cases hlt : W.heap.size ≤ g
          · exact ⟨.inr ⟨hg, hlt⟩, .inr ⟨hg, hlt⟩⟩
          · rcases hm.rows g hg with h | h
            · exact ⟨.inl h.1, .inl h.2⟩
            · exact absurd (Nat.le_of_not_lt h) hlt
        have hag : DenL σ [.sl (base + 1) n', .sl base n', z] [.slice A2 n' c2, .slice A n' c, w3] := DenL.cons (.sl hσb2 hA2) (DenL.cons (.sl hσb hA0) (DenL.cons (leaf σ hz0 hzz he3) (DenL.nil _)))
        have hl : DenL σ [x, .agg [.sl (base + 1) n', .sl base n', z], y] [u1, .agg (List.toArray [.slice A2 n' c2, .slice A n' c, w3]), u3] := DenL.cons (leaf σ hx0 hxx hd1) (DenL.cons (.agg hag.1 hag.2) (DenL.cons (leaf σ hy0 hyy hd3) (DenL.nil _)))
        refine ⟨σ, fun r hr => ?_, ⟨fun g h => .inl h, fun g h => ?_, fun g h => .inl h, fun g h => ?_, rfl⟩, .tup hl.1 hl.2, ⟨fun j b hj _ => ?_, fun j b a c hj ho hx => ?_, fun j l b d a c x y hj hl _ _ _ _ _ => ?_⟩⟩
        · have hne : r ≠ base := by intro e; simp at hr; omega
          have hne2 : r ≠ base + 1 := by intro e; simp at hr; omega
          simp only [σ, if_neg hne, if_neg hne2]
        · rcases h with h | h
          · exact .inl h
          · exact .inr ⟨h.2, hm.hS g h.1.1⟩
        · rcases h with ⟨h1 | h1, h2 | h2⟩
          · exact .inl ⟨h1, h2⟩
          · exact .inr h2.2
          · exact .inr h1.2
          · exact .inr h1.2
        · match j, hj with
          | 0, hj =>
            simp at hj
            subst hj
            refine ⟨A, c, vs, hσb, h2, fun a ha hs => ?_, hc, fun j hj k col hk => ?_⟩
            · rcases hs with hs | hs
              · have h1 := hS _ hs; have h2 := hge a ha; omega
              · exact (hnoS a ha).2 hs.1
            · obtain ⟨u, hu, hdu⟩ := hcol j hj k col hk
              exact ⟨u, hu, colDen_later hdu hRle (fun _ _ => rfl)⟩
          | 1, hj =>
            simp at hj
            subst hj
            trivial
          | j + 2, hj => simp at hj
        · match j, hj with
          | 0, hj =>
            simp only [Nat.add_zero, hσb, Option.some.injEq] at hx
            exact hge a (by simp only [Prod.mk.injEq] at hx; exact hx.1)
          | 1, hj =>
            simp at hj
            subst hj
            cases ho
          | j + 2, hj => simp at hj
        · rename_i ho1 ho2 _ _ _
          match j, l, hj, hl with
          | 0, 0, _, _ => rfl
          | 1, _, hj, _ =>
            simp at hj
            subst hj
            cases ho1
          | _, 1, _, hl =>
            simp at hl
            subst hl
            cases ho2
          | j + 2, _, hj, _ => simp at hj
          | _, l + 2, _, hl => simp at hl
    · exact hx'.elim
  · exact hx'.elim
/-- **A contract out of a condition.** -/
theorem callOk_nil {G : List (Nat × Nat)} {fid : FuncId} {fn : Func} {F : List MBlk → List SV → Option AR} (hfn : P.funcs[fid]? = some fn) (hok : fnOk P fid)
    (hF : ∀ m vs ar, F m vs = some ar → (∀ p ∈ ar.pre, p) → ∃ (T : Tab) (_ : TabOk P T) (f : Nat → Option Nat) (m0 : List MBlk) (vs0 : List SV), (∀ ρ xs, DenL ρ vs xs → DenL (pickEnv f ρ) vs0 xs) ∧ ltL vs0 m0.length = true ∧ memOk m0 = true ∧
      (∀ i k0, m0[i]? = some k0 → (∃ r k, f i = some r ∧ m[r]? = some k ∧ known k k0) ∨ (f i = none ∧ ∃ cols, k0 = .arr 0 cols)) ∧ (∀ g i, assoc T.globals g = some i → i < m0.length ∧ ∃ r, f i = some r ∧ assoc G g = some r) ∧ T.pins = [] ∧
      ((ar.new = [] ∧ ar.sv.ltB 0 = true ∧ fnVc T fn vs0 m0 (plainIs ar.sv)) ∨ (∃ t e N cols, tOk t = true ∧ 0 < cols.length ∧ ar.new = [.oarr e N cols] ∧ ar.sv = tinst m.length t ∧ fnVc T fn vs0 m0 (resIs t e N cols)) ∨ (∃ f, ar.new = [.mapp f] ∧ ar.sv = .mp m.length ∧ fnVc T fn vs0 m0 (resMap f)) ∨ (∃ R t, PostTo R t ar.new ∧ ar.sv = t m.length ∧ fnVc T fn vs0 m0 R))) : CallOk P G fid F := by
  refine ⟨hok, fun ρ W m vs xs ar hGl hS hblk hf hd h hp => ?_⟩
  obtain ⟨T, hT, f, m0, vs0, h1, h2, h3, h4, h5, hpin, h6⟩ := hF m vs ar h hp
  have hG : ∀ g i, assoc T.globals g = some i → i < m0.length ∧ ∃ c, (pickEnv f ρ) i = some (some ⟨g, 0, none⟩, c) := fun g i hg => by
    obtain ⟨e1, r, e2, e3⟩ := h5 g i hg
    obtain ⟨c, hc⟩ := hGl g r e3
    exact ⟨e1, c, by simp only [pickEnv, e2]; exact hc⟩
  rcases h6 with ⟨e1, e2, e3⟩ | ⟨t, e, N, cols, et, e0, e1, e2, e3⟩ | ⟨f', e1, e2, e3⟩ | ⟨R, t, e1, e2, e3⟩
  · have := post_plain (ρ := ρ) (base := m.length) e2 (callee hT hfn hS hblk (h1 ρ xs hd) h2 h3 h4 hG hpin e3)
    rw [e1]
    exact this
  · have := post_res (ρ := ρ) (base := m.length) et e0 hS (callee hT hfn hS hblk (h1 ρ xs hd) h2 h3 h4 hG hpin e3)
    rw [e1, e2]
    exact this
  · have := post_map (ρ := ρ) (base := m.length) hS (callee hT hfn hS hblk (h1 ρ xs hd) h2 h3 h4 hG hpin e3)
    rw [e1, e2]
    exact this
  · rw [e2]
    exact Calls.mono (callee hT hfn hS hblk (h1 ρ xs hd) h2 h3 h4 hG hpin e3) fun ex W' ⟨v, ρ', m', sv, he, hd, hm, hx'⟩ => ⟨v, he, e1 ρ W W' m.length v ρ' m' sv hS hd hm hx'⟩
/-- An argument under the callee's own name. -/
theorem Den.slAs {ρ : Env} {f : Nat → Option Nat} {r i n : Nat} {v : Value} (h : Den ρ (.sl r n) v) (hf : f i = some r) : Den (pickEnv f ρ) (.sl i n) v := by
  obtain ⟨A, c, h1, rfl, h2⟩ := h.sl_inv
  exact .sl (by simp only [pickEnv, hf]; exact h1) h2
theorem Den.nilAs {ρ : Env} {f : Nat → Option Nat} {i : Nat} {v : Value} (h : Den ρ .nilsl v) (hf : f i = none) : Den (pickEnv f ρ) (.sl i 0) v := by
  cases h
  exact .sl (by simp only [pickEnv, hf]) (fun h => absurd h (Nat.lt_irrefl _))
theorem DenL.conv {ρ : Env} {x y : SV} {xs ys : List SV} {vs : List Value} (h : DenL ρ (x :: xs) vs) (h1 : ∀ v, Den ρ x v → Den ρ y v) (h2 : ∀ vs, DenL ρ xs vs → DenL ρ ys vs) : DenL ρ (y :: ys) vs := by
  obtain ⟨v, us, rfl, e1, e2⟩ := h.inv
  exact DenL.cons (h1 v e1) (h2 us e2)
theorem DenL.conv2 {ρ σ : Env} {x y : SV} {xs ys : List SV} {vs : List Value} (h : DenL ρ (x :: xs) vs) (h1 : ∀ v, Den ρ x v → Den σ y v) (h2 : ∀ vs, DenL ρ xs vs → DenL σ ys vs) : DenL σ (y :: ys) vs := by
  obtain ⟨v, us, rfl, e1, e2⟩ := h.inv
  exact DenL.cons (h1 v e1) (h2 us e2)
theorem DenL.nilc {ρ σ : Env} {vs : List Value} (h : DenL ρ [] vs) : DenL σ [] vs := by rw [h.inv_nil]; exact DenL.nil σ
end
end Go.Proofs.Ytiokmglajigngaa.Sx
namespace Go.Proofs.Ytiokmglajigngaa.Sx
open Go Go.RowKit
section
variable {H : Type} {enc : TypeId × Value → H} {P : Program} {w : World} {base : Nat} {sp : Nat → Bool} {held : Bool}
end
end Go.Proofs.Ytiokmglajigngaa.Sx
namespace Go.Proofs.Ytiokmglajigngaa.Sx
open Go Go.RowKit Go.ChangeShapes Go.WideShapes
/-- The cells' kinds of a plain type. none: a boolean. -/
def kindsF (P : Program) (g : TypeId → Option (List (Option IntKind))) (tot : Nat) : List Field → Nat → Option (List (Option IntKind))
  | [], off => bif Nat.beq off tot then some [] else none
  | x :: r, off => bif Nat.beq x.offset off then (match g x.type with
    | some ks => bif Nat.beq ks.length (P.cellsOf x.type) then (match kindsF P g tot r (off + P.cellsOf x.type) with
      | some l => some (ks ++ l)
      | none => none) else none
    | none => none) else none
def kindsN (ks : List (Option IntKind)) : Nat → List (Option IntKind)
  | 0 => []
  | n + 1 => ks ++ kindsN ks n
def kindsOf (P : Program) : Nat → TypeId → Option (List (Option IntKind))
  | 0, _ => none
  | f + 1, t => match P.underlying t with
    | some .bool => some [none]
    | some (.int k) => some [some k]
    | some (.struct fs) => kindsF P (kindsOf P f) (P.cellsOf t) fs.toList 0
    | some (.array n e) => match kindsOf P f e with
      | some ks => bif Nat.beq (n * P.cellsOf e) (P.cellsOf t) && Nat.beq ks.length (P.cellsOf e) then some (kindsN ks n) else none
      | none => none
    | _ => none
/-- A cell of this kind. -/
def cellK : Option IntKind → Value → Prop
  | some k, v => ∃ n, v = .int k n ∧ (Lit.int k n).wf = true
  | none, v => ∃ b, v = .bool b
def cellsK : List (Option IntKind) → List Value → Prop
  | [], [] => True
  | k :: ks, v :: vs => cellK k v ∧ cellsK ks vs
  | _, _ => False
theorem cellsK_append {a b : List (Option IntKind)} {x y : List Value} (h : cellsK a x) (h' : cellsK b y) : cellsK (a ++ b) (x ++ y) := by
  induction a generalizing x with
  | nil => cases x <;> simp [cellsK] at h; simpa using h'
  | cons k ks ih =>
    cases x with
    | nil => simp [cellsK] at h
    | cons v vs => exact ⟨h.1, ih h.2⟩
section
variable {H : Type} {enc : TypeId × Value → H} {P : Program} {w : World} {base : Nat} {sp : Nat → Bool} {held : Bool}
theorem kinds_fields {f fuel : Nat} {cs : List Value} {tot : Nat} (hl : cs.length = tot) (ih : ∀ t cs d p ks, kindsOf P f t = some ks → DataW.trod enc P w base sp held fuel t cs = some (d, p) → cellsK ks cs ∧ p = []) :
    ∀ (fs : List Field) (off : Nat) (xs : List (DataW H × List MemPlace)) (ks : List (Option IntKind)), kindsF P (kindsOf P f) tot fs off = some ks → (fs.mapM fun f => DataW.trod enc P w base sp held fuel f.type ((cs.drop f.offset).take (P.cellsOf f.type))) = some xs → cellsK ks (cs.drop off) ∧ xs.flatMap (·.2) = [] := by
  intro fs
  induction fs with
  | nil =>
    intro off xs ks h hm
    simp only [kindsF] at h
    cases e : Nat.beq off tot
    · simp [e] at h
    · simp only [e, cond_true, Option.some.injEq] at h
      have := Nat.eq_of_beq_eq_true e
      simp only [List.mapM_nil, Option.pure_def, Option.some.injEq] at hm
      subst hm h
      rw [this, ← hl]
      simp [cellsK]
  | cons x r ihr =>
    intro off xs ks h hm
    simp only [kindsF] at h
    cases e : Nat.beq x.offset off
    · simp [e] at h
    · simp only [e, cond_true] at h
      have e1 := Nat.eq_of_beq_eq_true e
      split at h
      · rename_i k1 hk1
        cases e2 : Nat.beq k1.length (P.cellsOf x.type)
        · simp [e2] at h
        · simp only [e2, cond_true] at h
          split at h
          · rename_i l hl2
            simp only [Option.some.injEq] at h
            subst h
            simp only [List.mapM_cons, Option.bind_eq_bind, Option.bind_eq_some_iff, Option.pure_def, Option.some.injEq] at hm
            obtain ⟨⟨d, p⟩, hb, ys, hys, rfl⟩ := hm
            obtain ⟨h1, h1'⟩ := ih _ _ _ _ _ hk1 hb
            obtain ⟨h2, h2'⟩ := ihr _ _ _ hl2 hys
            rw [e1] at h1
            refine ⟨?_, by simp [h1', h2']⟩
            rw [← List.take_append_drop (P.cellsOf x.type) (cs.drop off), List.drop_drop]
            exact cellsK_append h1 h2
          · cases h
      · cases h
theorem kinds_elems {f fuel s e : Nat} {cs : List Value} {ks : List (Option IntKind)} (he : kindsOf P f e = some ks) (ih : ∀ t cs d p ks, kindsOf P f t = some ks → DataW.trod enc P w base sp held fuel t cs = some (d, p) → cellsK ks cs ∧ p = []) :
    ∀ (m k : Nat) (xs : List (DataW H × List MemPlace)), (k + m) * s = cs.length → ((List.range' k m).mapM fun i => DataW.trod enc P w base sp held fuel e ((cs.drop (i * s)).take s)) = some xs → cellsK (kindsN ks m) (cs.drop (k * s)) ∧ xs.flatMap (·.2) = [] := by
  intro m
  induction m with
  | zero =>
    intro k xs hl hm
    simp only [List.range'_zero, List.mapM_nil, Option.pure_def, Option.some.injEq] at hm
    subst hm
    simp only [Nat.add_zero] at hl
    rw [hl]
    simp [kindsN, cellsK]
  | succ m ihm =>
    intro k xs hl hm
    simp only [List.range'_succ, List.mapM_cons, Option.bind_eq_bind, Option.bind_eq_some_iff, Option.pure_def, Option.some.injEq] at hm
    obtain ⟨⟨d, p⟩, hb, ys, hys, rfl⟩ := hm
    obtain ⟨h1, h1'⟩ := ih _ _ _ _ _ he hb
    obtain ⟨h2, h2'⟩ := ihm (k + 1) ys (by rw [← hl]; congr 1; omega) hys
    refine ⟨?_, by simp [h1', h2']⟩
    rw [← List.take_append_drop s (cs.drop (k * s)), List.drop_drop]
    rw [Nat.add_mul, Nat.one_mul] at h2
    exact cellsK_append h1 h2
/-- What reads at a plain type: cells of its kinds, and nothing in memory. -/
theorem kinds_cells : ∀ (f fuel : Nat) (t : TypeId) (cs : List Value) (d : DataW H) (p : List MemPlace) (ks : List (Option IntKind)), kindsOf P f t = some ks → DataW.trod enc P w base sp held fuel t cs = some (d, p) → cellsK ks cs ∧ p = [] := by
  intro f
  induction f with
  | zero => intro fuel t cs d p ks h; simp [kindsOf] at h
  | succ f ih =>
    intro fuel t cs d p ks h hd
    cases fuel with
    | zero => simp [DataW.trod] at hd
    | succ fuel =>
      simp only [kindsOf] at h
      split at h
      · rename_i ht
        simp only [Option.some.injEq] at h
        subst h
        obtain ⟨b, rfl, hx⟩ := DataW.trod_bool ht hd
        simp only [Prod.mk.injEq] at hx
        exact ⟨⟨⟨b, rfl⟩, trivial⟩, hx.2⟩
      · rename_i k ht
        simp only [Option.some.injEq] at h
        subst h
        obtain ⟨n, rfl, hx, hw⟩ := DataW.trod_int ht hd
        simp only [Prod.mk.injEq] at hx
        exact ⟨⟨⟨n, rfl, hw⟩, trivial⟩, hx.2⟩
      · rename_i fs ht
        simp only [DataW.trod, ht] at hd
        split at hd
        · rename_i hl
          obtain ⟨xs, hm, hx⟩ := Option.map_eq_some_iff.1 hd
          simp only [Prod.mk.injEq] at hx
          have := kinds_fields hl (fun t cs d p ks => ih fuel t cs d p ks) fs.toList 0 xs _ h hm
          exact ⟨by simpa using this.1, by rw [← hx.2]; exact this.2⟩
        · cases hd
      · rename_i n e ht
        split at h
        · rename_i k1 hk1
          cases e2 : (Nat.beq (n * P.cellsOf e) (P.cellsOf t) && Nat.beq k1.length (P.cellsOf e))
          · simp [e2] at h
          · simp only [e2, cond_true, Option.some.injEq] at h
            subst h
            simp only [Bool.and_eq_true] at e2
            have e1 := Nat.eq_of_beq_eq_true e2.1
            simp only [DataW.trod, ht] at hd
            split at hd
            · rename_i hl
              obtain ⟨xs, hm, hx⟩ := Option.map_eq_some_iff.1 hd
              simp only [Prod.mk.injEq] at hx
              rw [List.range_eq_range'] at hm
              have := kinds_elems hk1 (fun t cs d p ks => ih fuel t cs d p ks) n 0 xs (by rw [Nat.zero_add, e1, hl]) hm
              exact ⟨by simpa using this.1, by rw [← hx.2]; exact this.2⟩
            · cases hd
        · cases h
      · cases h
end
section
variable {H : Type} {enc : TypeId × Value → H} {P : Program}
def readableAll (P : Program) (ts : List TypeId) : Bool := ts.all fun t => P.readableRec t && decide (t < P.types.size)
theorem trodAll_below {W W' : World} {sp : Nat → Bool} (hl : laidOutB P = true) (hb : Below W.heap.size W W') : ∀ {ts : List TypeId} {vs : List Value} {ds : List (DataW H)} {ps : List MemPlace}, readableAll P ts = true → DataW.TrodAll enc P W 0 (fun _ => true) true ts vs ds ps → (∀ p ∈ ps, sp p.block = true) → DataW.TrodAll enc P W' 0 sp true ts vs ds ps
  | [], [], [], _, _, h, _ => h
  | [], _ :: _, _, _, _, h, _ => h.elim
  | [], [], _ :: _, _, _, h, _ => h.elim
  | _ :: _, [], _, _, _, h, _ => h.elim
  | _ :: _, _ :: _, [], _, _, h, _ => h.elim
  | t :: ts, v :: vs, d :: ds, ps, hr, h, hs => by
    have hlt := h.lt
    obtain ⟨p, q, h1, h2, e⟩ := h
    simp only [readableAll, List.all_cons, Bool.and_eq_true, decide_eq_true_eq] at hr
    exact ⟨p, q, WideElems.Trod_stays hl hr.1.1 hr.1.2 h1 (fun x hx => hb.same (hlt x (by rw [e]; simp [hx]))) (fun x hx => hs x (by rw [e]; simp [hx])), trodAll_below hl hb (by simpa [readableAll] using hr.2) h2 (fun x hx => hs x (by rw [e]; simp [hx])), e⟩
/-- A law that names no variable, returns true, and turns nothing that was there. -/
theorem post_law {f : Func} {s : ChangeSpec} {apart fresh handsOn again : Bool} {W W' : World} {args : Array Value} {ds gs : List (DataW H)} {before : List MemPlace} {tb : TypeId} (hl : laidOutB P = true) (hr : readableAll P f.params.toList = true)
    (hres : f.resultTypes = #[tb]) (htb : P.underlying tb = some .bool) (hv : s.vars = []) (hs : s.fn H (ds ++ gs) = { results := [.lit (.bool true)], args := ds })
    (hW : DataW.Whole enc P f.params.toList s.vars apart W args.toList ds gs before) (hb : Below W.heap.size W W') : s.post enc P f apart fresh handsOn again W args (.bool true) W' := by
  have hW' := hW
  have hltW := hW.lt
  obtain ⟨p, q, hA, hV, rfl, hfz, hnd⟩ := hW
  rw [hv] at hV
  obtain ⟨rfl, rfl⟩ := trodVars_none hV
  have hlt : ∀ x ∈ p, x.block < W.heap.size := fun x hx => hltW x (by simp [hx])
  have key : ∀ sp : Nat → Bool, (∀ x ∈ p, sp x.block = true) → DataW.TrodAll enc P W' 0 sp true f.params.toList args.toList (s.fn H (ds ++ [])).args p := fun sp hsp => by
    rw [hs]; exact trodAll_below hl hb hr hA hsp
  have kres : ∀ (b : Nat) (sp : Nat → Bool) (hd : Bool), DataW.TrodAll enc P W' b sp hd f.resultTypes.toList ((Value.bool true).resultList f.resultTypes.size) (s.fn H (ds ++ [])).results [] := fun b sp hd => by
    rw [hs, hres]
    exact trodAll_cons_mk (shut_bool htb true) trodAll_mk0
  have kvars : ∀ sp : Nat → Bool, DataW.TrodVars enc P W' sp s.vars (s.fn H (ds ++ [])).vars [] := fun sp => by
    rw [hv, hs]; exact rfl
  refine ⟨ds, [], p ++ [], [], p, [], hW', kres _ _ _, key _ (fun x hx => by simpa using hlt x hx), kvars _, World.keptBut_mono (fun x hx => ⟨hx, Or.inr (by simpa using hx)⟩) (hb.frame (· ∈ p ++ [])), fun _ => ?_⟩
  refine ⟨ok_one hres rfl (okWide_bool_mk htb true), _, _, ([] ++ p) ++ [], ⟨[] ++ p, [], trodAll_append (key _ (fun _ _ => rfl)) (kres _ _ _), kvars _, rfl, ?_, ?_⟩, ?_⟩
  · intro b off hp
    have hin : MemPlace.cell b off ∈ p ++ [] := by simpa using hp
    rw [hb.frozen (hltW _ hin)]
    exact hfz b off hin
  · intro ha
    simpa using hnd ha
  · intro x hx _
    simpa using hx
end
end Go.Proofs.Ytiokmglajigngaa.Sx
namespace Go.Proofs.Ytiokmglajigngaa.Sx
open Go Go.RowKit Go.ChangeShapes Go.WideShapes
section
variable {H : Type} {enc : TypeId × Value → H} {P : Program} {w : World} {base : Nat} {sp : Nat → Bool} {held : Bool}
theorem mapM_get' {α β : Type} {f : α → Option β} : ∀ {l : List α} {ys : List β}, l.mapM f = some ys → ys.length = l.length ∧ ∀ (i : Nat) (x : α), l[i]? = some x → f x = ys[i]? := by
  intro l
  induction l with
  | nil => intro ys h; simp at h; subst h; simp
  | cons a r ih =>
    intro ys h
    simp only [List.mapM_cons, Option.bind_eq_bind, Option.bind_eq_some_iff, Option.pure_def, Option.some.injEq] at h
    obtain ⟨y, hy, zs, hz, rfl⟩ := h
    obtain ⟨h1, h2⟩ := ih hz
    refine ⟨by simp [h1], fun i x hx => ?_⟩
    cases i with
    | zero => simp at hx; subst hx; simpa using hy
    | succ i => simpa using h2 i x (by simpa using hx)
theorem cells?_get {a : Addr} {n : Nat} {cs : List Value} (h : w.cells? base a n = some cs) : ∀ k, k < n → w.cell? (a.add k) = cs[k]? := by
  unfold World.cells? at h
  split at h
  · intro k hk
    exact (mapM_get' h).2 k k (by simp [hk])
  · cases h
theorem cellsK_get : ∀ {ks : List (Option IntKind)} {cs : List Value}, cellsK ks cs → ∀ (k : Nat) (kd : Option IntKind), ks[k]? = some kd → ∃ u, cs[k]? = some u ∧ cellK kd u := by
  intro ks
  induction ks with
  | nil => intro cs _ k kd h; simp at h
  | cons x r ih =>
    intro cs h k kd hk
    cases cs with
    | nil => simp [cellsK] at h
    | cons v vs =>
      cases k with
      | zero => simp at hk; subst hk; exact ⟨v, rfl, h.1⟩
      | succ k => simpa using ih h.2 k kd (by simpa using hk)
/-- An argument that is a slice of plain elements. -/
theorem open_slice {r : Reach} {b0 f : Nat} {t e : TypeId} {v : Value} {d : DataW H} {p : List MemPlace} {ks : List (Option IntKind)} (ht : P.underlying t = some (.slice e)) (hk : kindsOf P f e = some ks) (hl : ks.length = P.cellsOf e) (h0 : 0 < ks.length) (hv : Value.okWide P w r b0 t v) (h : DataW.Trod enc P w base sp held t v d p) :
    ∃ A n c, v = .slice A n c ∧ n ≤ c ∧ n ≤ maxLen ∧ (0 < n → ∃ a, A = some a ∧ a.block < w.heap.size ∧ ∀ j, j < n → ∀ (k : Nat) (kd : Option IntKind), ks[k]? = some kd → ∃ u, w.cell? (a.add (j * ks.length + k)) = some u ∧ cellK kd u) := by
  obtain ⟨A, n, c, rfl⟩ := okWide_slice ht hv
  obtain ⟨fuel, hf⟩ := h
  have hcs : (Value.slice A n c).cells.toList = [.slice A n c] := by simp [Value.cells]
  rw [hcs] at hf
  rcases DataW.trod_slice ht hf with ⟨hz, _⟩ | ⟨a, len, cap, elems, rest, m, _, hz, _, _, hle, hmx, hel, hat, _⟩
  · simp only [List.cons.injEq, and_true, Value.slice.injEq] at hz
    obtain ⟨rfl, rfl, rfl⟩ := hz
    exact ⟨none, 0, 0, rfl, Nat.le_refl _, by simp [maxLen], fun h => absurd h (Nat.lt_irrefl _)⟩
  · simp only [List.cons.injEq, and_true, Value.slice.injEq] at hz
    obtain ⟨rfl, rfl, rfl⟩ := hz
    refine ⟨some a, n, c, rfl, hle, Nat.le_trans hle hmx, fun hn => ?_⟩
    have hcell : ∀ j, j < n → ∀ (k : Nat) (kd : Option IntKind), ks[k]? = some kd → ∃ u, w.cell? (a.add (j * ks.length + k)) = some u ∧ cellK kd u := fun j hj k kd hkk => by
      have h1 := hat j hj
      rw [List.getElem?_eq_getElem (by omega)] at h1
      rw [Option.bind_eq_some_iff] at h1
      obtain ⟨cs, hcs1, hcs2⟩ := h1
      obtain ⟨h2, _⟩ := kinds_cells f m e cs _ _ ks hk (show DataW.trod enc P w base sp held m e cs = some (elems[j].1, elems[j].2) from hcs2)
      obtain ⟨u, hu, hku⟩ := cellsK_get h2 k kd hkk
      have hkl := (List.getElem?_eq_some_iff.1 hkk).1
      have := cells?_get hcs1 k (by omega)
      rw [add_add', hu, ← hl] at this
      exact ⟨u, this, hku⟩
    refine ⟨a, rfl, ?_, hcell⟩
    obtain ⟨u, hu, _⟩ := hcell 0 hn 0 _ (List.getElem?_eq_getElem h0)
    have := World.block_lt_of_cell? w _ hu
    rw [block_add] at this
    exact this
end
/-- The environment of a law's arguments. -/
def argEnv (W : World) (E : Nat → Option (Option Addr × Nat)) : Env := ⟨E, fun g => g < W.heap.size, fun _ => False, fun _ _ => False⟩
theorem law_go {P : Program} {T : Tab} {W : World} {fid : FuncId} {fn : Func} {m0 : List MBlk} {vs : List SV} {xs : List Value} {E : Nat → Option (Option Addr × Nat)} (hT : TabOk P T) (hg : T.globals = []) (hpin : T.pins = []) (hf : P.funcs[fid]? = some fn)
    (hE : ∀ i, E i ≠ none → i < m0.length) (hok : memOk m0 = true) (hbr : ∀ i k, m0[i]? = some k → E i ≠ none → BR (argEnv W E) W i k) (hd : DenL (argEnv W E) vs xs) (hv : fnVc T fn vs m0 (plainIs .tt)) :
    Calls P fid xs.toArray W fun e W' => e = .returned (.bool true) ∧ Below W.heap.size W W' := by
  refine Calls.mono (fn_calls (B := ⟨fun g => g < W.heap.size, fun _ => False⟩) (w0 := W) (ρ := argEnv W E) hT hf hv ⟨fun g hg => hg, fun g hg => hg.2.elim, fun g hg => hg, .refl _ _, hbr, hE, fun _ _ h => h.elim, fun _ _ _ h => h.elim, fun _ _ _ _ _ _ h => h.elim, fun r s k l a b c d hk _ ho => ?_⟩ ⟨fun g i hgi => ?_, fun p hp => ?_⟩ hd) fun e W' ⟨v, ρ', m', sv, he, hdv, hm, hp, _⟩ => ⟨?_, hm.below.below⟩
  · rw [(memOk_get hok hk).2] at ho; cases ho
  · rw [hg] at hgi; cases hgi
  · rw [hpin] at hp; cases hp
  · rw [he, (veq_den _ _ _ hp hdv).tt_inv]
end Go.Proofs.Ytiokmglajigngaa.Sx
