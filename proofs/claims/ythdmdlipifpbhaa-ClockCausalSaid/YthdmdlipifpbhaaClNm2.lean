/-
  The clock layer: contracts whose arguments bear given names, by the entry that they lie in.
-/
import Derived.Test.YthdmdlipifpbhaaCl6
import Derived.Test.YthdmdlipifpbhaaCl7
import Derived.Test.YthdmdlipifpbhaaClLaw3
namespace Go.Proofs.Ythdmdlipifpbhaa
open Go Go.Proofs.Ythdmdlipifpbhaa.Sx
/-- The name of an entry (none: of no entry). -/
def nmO (nm : List (List Tk)) : Option Nat → Option (List Tk)
  | none => some []
  | some r => nth nm r
/-- The name of the next entry. -/
def nmX : List (List Tk) → List MBlk → Option (List Tk)
  | [], _ => none
  | A :: _, [] => some A
  | _ :: nm, _ :: m => nmX nm m
def nC1 (nm : List (List Tk)) (pre : List Tk → Prop) (g : List Tk → SV) : List MBlk → List SV → Option AR := fun m vs => match vs with
  | [x] => match ck m x with
    | some (r, n, n', l) => match nmO nm r with
      | some A => some ⟨[n = n', l = A, pre A], g A, []⟩
      | none => none
    | none => none
  | _ => none
def nC2 (nm : List (List Tk)) (pre : List Tk → List Tk → Prop) (g : List Tk → List Tk → SV) : List MBlk → List SV → Option AR := fun m vs => match vs with
  | [x, y] => match ck m x, ck m y with
    | some (r, n, n', a), some (q, k, k', b) => match nmO nm r, nmO nm q with
      | some A, some B => some ⟨[n = n', k = k', a = A, b = B, pre A B], g A B, []⟩
      | _, _ => none
    | _, _ => none
  | _ => none
def mR2 (nm : List (List Tk)) (pre : List Tk → List Tk → Prop) (g : List Tk → List Tk → List Tk) : List MBlk → List SV → Option AR := fun m vs => match vs with
  | [x, y] => match ck m x, ck m y with
    | some (r, n, n', a), some (q, k, k', b) => match nmO nm r, nmO nm q, nmX nm m with
      | some A, some B, some C => some ⟨[n = n', k = k', a = A, b = B, pre A B, g A B = C], .sl m.length C.length, [.oarr 27 C.length (clkCols C)]⟩
      | _, _, _ => none
    | _, _ => none
  | _ => none
theorem okNC1 {f : Nat} {nm : List (List Tk)} {pre : List Tk → Prop} {g : List Tk → SV} (h : CallOk Try.prog [] f (fC1 pre g)) : CallOk Try.prog [] f (nC1 nm pre g) := callOk_of h fun m vs ar hF hp => by
  unfold nC1 at hF
  split at hF
  · rename_i x
    split at hF
    · rename_i r n n' l hx
      split at hF
      · rename_i A hA
        simp only [Option.some.injEq] at hF
        subst hF
        have e : l = A := hp _ (by simp)
        subst e
        refine ⟨⟨[n = n', pre l], g l, []⟩, by simp only [fC1, hx], fun p hp' => hp p ?_, rfl, rfl⟩
        simp only [List.mem_cons, List.not_mem_nil, or_false] at hp' ⊢
        rcases hp' with h | h <;> simp [h]
      · cases hF
    · cases hF
  · cases hF
theorem okNC2 {f : Nat} {nm : List (List Tk)} {pre : List Tk → List Tk → Prop} {g : List Tk → List Tk → SV} (h : CallOk Try.prog [] f (fC2 pre g)) : CallOk Try.prog [] f (nC2 nm pre g) := callOk_of h fun m vs ar hF hp => by
  unfold nC2 at hF
  split at hF
  · rename_i x y
    split at hF
    · rename_i r n n' a q k k' b hx hy
      split at hF
      · rename_i A B hA hB
        simp only [Option.some.injEq] at hF
        subst hF
        have e : a = A := hp _ (by simp)
        have e' : b = B := hp _ (by simp)
        subst e e'
        refine ⟨⟨[n = n', k = k', pre a b], g a b, []⟩, by simp only [fC2, hx, hy], fun p hp' => hp p ?_, rfl, rfl⟩
        simp only [List.mem_cons, List.not_mem_nil, or_false] at hp' ⊢
        rcases hp' with h | h | h <;> simp [h]
      · cases hF
    · cases hF
  · cases hF
theorem okMR2 {f : Nat} {nm : List (List Tk)} {pre : List Tk → List Tk → Prop} {g : List Tk → List Tk → List Tk} (h : CallOk Try.prog [] f (rC2 pre g)) : CallOk Try.prog [] f (mR2 nm pre g) := callOk_of h fun m vs ar hF hp => by
  unfold mR2 at hF
  split at hF
  · rename_i x y
    split at hF
    · rename_i r n n' a q k k' b hx hy
      split at hF
      · rename_i A B C hA hB hC
        simp only [Option.some.injEq] at hF
        subst hF
        have e : a = A := hp _ (by simp)
        have e' : b = B := hp _ (by simp)
        have e2 : g A B = C := hp _ (by simp)
        subst e e'
        refine ⟨⟨[n = n', k = k', pre a b], .sl m.length (g a b).length, [.oarr 27 (g a b).length (clkCols (g a b))]⟩, by simp only [rC2, hx, hy], fun p hp' => hp p ?_, by rw [e2], by rw [e2]⟩
        simp only [List.mem_cons, List.not_mem_nil, or_false] at hp' ⊢
        rcases hp' with h | h | h <;> simp [h]
      · cases hF
    · cases hF
  · cases hF
def LL (a b : List Tk) : Prop := L40 a ∧ L40 b
end Go.Proofs.Ythdmdlipifpbhaa
