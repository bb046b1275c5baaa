/-
  The clock layer: Stamps under given names.
-/
import Derived.Test.YthdmdlipifpbhaaClNm2
import Derived.Test.YthdmdlipifpbhaaCl10
namespace Go.Proofs.Ythdmdlipifpbhaa
open Go Go.Proofs.Ythdmdlipifpbhaa.Sx
def nSt (ag fr : List Int) (L : List (List Tk)) (e : Int) : List MBlk → List SV → Option AR := fun m vs => match vs with
  | [x, y] => match ckI m x, ckI m y with
    | some (_, n, n', a), some (_, k, k', b) => some ⟨[n = n', k = k', a = ag, b = fr, LI ag, LI fr, stampsR ag fr = (L, e)], .tup [.sl m.length L.length, .i .i64 e], [.oarr 23 L.length (rowsC L)]⟩
    | _, _ => none
  | _ => none
theorem okSt {f : Nat} {ag fr : List Int} {L : List (List Tk)} {e : Int} (h : CallOk Try.prog [] f rSt) : CallOk Try.prog [] f (nSt ag fr L e) := callOk_of h fun m vs ar hF hp => by
  unfold nSt at hF
  split at hF
  · rename_i x y
    split at hF
    · rename_i r n n' a q k k' b hx hy
      simp only [Option.some.injEq] at hF
      subst hF
      have ea : a = ag := hp _ (by simp)
      have eb : b = fr := hp _ (by simp)
      subst ea eb
      have es : stampsR a b = (L, e) := hp _ (by simp)
      refine ⟨⟨[n = n', k = k', LI a, LI b], .tup [.sl m.length (stampsR a b).1.length, .i .i64 (stampsR a b).2], [.oarr 23 (stampsR a b).1.length (rowsC (stampsR a b).1)]⟩, by simp only [rSt, hx, hy], fun p hp' => hp p ?_, by rw [es], by rw [es]⟩
      simp only [List.mem_cons, List.not_mem_nil, or_false] at hp' ⊢
      rcases hp' with h | h | h | h <;> simp [h]
    · cases hF
  · cases hF
def lIx (n s : Nat) : LAnn := { X := Nat, inv := fun i => i ≤ n, slots := fun i => [(s, .i .i64 i)], mem := fun _ => [], mu := fun i => n - i }
end Go.Proofs.Ythdmdlipifpbhaa
