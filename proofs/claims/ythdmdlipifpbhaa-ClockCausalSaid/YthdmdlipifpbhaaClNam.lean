/-
  The clock layer: contracts whose results bear a given name.
-/
import Derived.Test.YthdmdlipifpbhaaClRows
namespace Go.Proofs.Ythdmdlipifpbhaa
open Go Go.Proofs.Ythdmdlipifpbhaa.Sx
theorem callOk_of {G : List (Nat × Nat)} {f : Nat} {F F0 : List MBlk → List SV → Option AR} (h : CallOk Try.prog G f F0) (hF : ∀ m vs ar, F m vs = some ar → (∀ p ∈ ar.pre, p) → ∃ ar0, F0 m vs = some ar0 ∧ (∀ p ∈ ar0.pre, p) ∧ ar0.sv = ar.sv ∧ ar0.new = ar.new) : CallOk Try.prog G f F := by
  refine ⟨h.fn, fun ρ W m vs xs ar h1 h2 h3 h4 h5 h6 h7 => ?_⟩
  obtain ⟨ar0, e1, e2, e3, e4⟩ := hF m vs ar h6 h7
  rw [← e3, ← e4]
  exact h.ok ρ W m vs xs ar0 h1 h2 h3 (by rw [e4]; exact h4) h5 e1 e2
/-- How long the slice of entry r0 is. -/
def lenAt (m : List MBlk) (r0 : Nat) : Option Nat := match nth m r0 with
  | some (.oarr _ n _) => some n
  | _ => none
def rN2 (r0 : Nat) (pre : List Tk → List Tk → Prop) (g : List Tk → List Tk → List Tk) (nm : Nat → List Tk) : List MBlk → List SV → Option AR := fun m vs => match vs with
  | [x, y] => match ck m x, ck m y, lenAt m r0 with
    | some (_, n, n', a), some (_, k, k', b), some N => some ⟨[n = n', k = k', pre a b, g a b = nm N], .sl m.length (nm N).length, [.oarr 27 (nm N).length (clkCols (nm N))]⟩
    | _, _, _ => none
  | _ => none
def rN1i (r0 : Nat) (pre : List Tk → Int → Prop) (g : List Tk → Int → List Tk) (nm : Nat → List Tk) : List MBlk → List SV → Option AR := fun m vs => match vs with
  | [x, .i .i64 a] => match ck m x, lenAt m r0 with
    | some (_, n, n', l), some N => some ⟨[n = n', pre l a, g l a = nm N], .sl m.length (nm N).length, [.oarr 27 (nm N).length (clkCols (nm N))]⟩
    | _, _ => none
  | _ => none
theorem okN2 {f r0 : Nat} {pre : List Tk → List Tk → Prop} {g : List Tk → List Tk → List Tk} {nm : Nat → List Tk} (h : CallOk Try.prog [] f (rC2 pre g)) : CallOk Try.prog [] f (rN2 r0 pre g nm) := callOk_of h fun m vs ar hF hp => by
  unfold rN2 at hF
  split at hF
  · rename_i x y
    split at hF
    · rename_i r n n' a q k k' b N hx hy hN
      simp only [Option.some.injEq] at hF
      subst hF
      have e : g a b = nm N := hp _ (by simp)
      refine ⟨⟨[n = n', k = k', pre a b], .sl m.length (g a b).length, [.oarr 27 (g a b).length (clkCols (g a b))]⟩, by simp only [rC2, hx, hy], fun p hp' => hp p ?_, by rw [e], by rw [e]⟩
      simp only [List.mem_cons, List.not_mem_nil, or_false] at hp' ⊢
      rcases hp' with h | h | h <;> simp [h]
    · cases hF
  · cases hF
theorem okN1i {f r0 : Nat} {pre : List Tk → Int → Prop} {g : List Tk → Int → List Tk} {nm : Nat → List Tk} (h : CallOk Try.prog [] f (rC1i pre g)) : CallOk Try.prog [] f (rN1i r0 pre g nm) := callOk_of h fun m vs ar hF hp => by
  unfold rN1i at hF
  split at hF
  · rename_i x a
    split at hF
    · rename_i r n n' l N hx hN
      simp only [Option.some.injEq] at hF
      subst hF
      have e : g l a = nm N := hp _ (by simp)
      refine ⟨⟨[n = n', pre l a], .sl m.length (g l a).length, [.oarr 27 (g l a).length (clkCols (g l a))]⟩, by simp only [rC1i, hx], fun p hp' => hp p ?_, by rw [e], by rw [e]⟩
      simp only [List.mem_cons, List.not_mem_nil, or_false] at hp' ⊢
      rcases hp' with h | h <;> simp [h]
    · cases hF
  · cases hF
def nxtC (ag fr : List Int) (n : Nat) : List Tk := nextC ag fr (stL ag fr n) n
def newC (ag fr : List Int) (n : Nat) : List Tk := advL (nxtC ag fr n) (inF ag n)
def cSt (ag fr : List Int) : Calling := [(30, rN1i 3 (fun l _ => L40 l) advL (newC ag fr)), (32, rN2 3 (fun a b => L40 a ∧ L40 b) joinL (nxtC ag fr))]
theorem mcSt (ag fr : List Int) : ∀ p ∈ cSt ag fr, CallOk Try.prog [] p.1 p.2 := mOne (okN1i c30) (mOne (okN2 c32) mNil)
end Go.Proofs.Ythdmdlipifpbhaa
