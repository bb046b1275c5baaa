/-
  The linext layer: types, shapes of contracts.
-/
import Derived.Test.YtiokmglajigngaaSt17
import Derived.Test.YtiokmglajigngaaRows
namespace Go.Proofs.Ytiokmglajigngaa
open Go Go.Proofs.Ytiokmglajigngaa.Sx

def tyTab : List (Nat × TI) := [
(3, ⟨0, 1, 8, [.i .i64 0], [], 0, 0, some IntKind.i64, none, []⟩),
(4, ⟨5, 1, 1, [SV.ff], [], 0, 0, none, none, []⟩),
(22, ⟨3, 1, 24, [SV.nilsl], [], 40, 2, none, none, []⟩),
(24, ⟨1, 2, 32, [.i .i64 0, SV.nilsl], [(0, 1), (1, 1)], 0, 0, none, none, [false, false]⟩),
(25, ⟨3, 1, 24, [SV.nilsl], [], 3, 1, none, none, []⟩),
(28, ⟨0, 1, 8, [.i .i64 0], [], 0, 0, some IntKind.i64, none, []⟩),
(40, ⟨2, 2, 16, [.i .i64 0, .i .i64 0], [], 3, 2, none, some [some IntKind.i64, some IntKind.i64], []⟩),
(33, ⟨3, 1, 24, [SV.nilsl], [], 25, 1, none, none, []⟩),
(71, ⟨3, 1, 24, [SV.nilsl], [], 4, 1, none, none, []⟩),
(80, ⟨4, 1, 8, [SV.nilmap], [], 40, 4, none, none, []⟩),
(49, ⟨3, 1, 24, [SV.nilsl], [], 54, 1, none, none, []⟩),
(51, ⟨1, 2, 32, [.i .i64 0, SV.nilsl], [(0, 1), (1, 1)], 0, 0, none, none, [false, false]⟩),
(54, ⟨0, 1, 8, [.i .u64 0], [], 0, 0, some IntKind.u64, none, []⟩),
(77, ⟨0, 1, 8, [.i .u64 0], [], 0, 0, some IntKind.u64, none, []⟩),
(5, ⟨0, 1, 1, [.i .u8 0], [], 0, 0, some IntKind.u8, none, []⟩),
(83, ⟨0, 1, 8, [SV.dead], [], 0, 0, none, none, []⟩),
(59, ⟨0, 1, 8, [SV.dead], [], 0, 0, none, none, []⟩),
(65, ⟨1, 3, 56, [SV.nilsl, SV.nilsl, SV.ff], [(0, 1), (1, 1), (2, 1)], 0, 0, none, none, [false, false, false]⟩),
(68, ⟨4, 1, 8, [SV.nilmap], [], 54, 3, none, none, []⟩),
(74, ⟨4, 1, 8, [SV.nilmap], [], 54, 4, none, none, []⟩)]
theorem tys : ∀ t ti, assoc tyTab t = some ti → tiChk Try.prog t ti = true := by
  intro t ti h
  have key : (tyTab.all fun p => tiChk Try.prog p.1 p.2) = true := by kernel_rfl
  exact List.all_eq_true.1 key _ (assoc_mem h)
theorem ints : ∀ t ti, assoc tyTab t = some ti → intChk Try.prog t ti = true := by
  intro t ti h
  have key : (tyTab.all fun p => intChk Try.prog p.1 p.2) = true := by kernel_rfl
  exact List.all_eq_true.1 key _ (assoc_mem h)
theorem mixed : Try.prog.follows .mixedOrders = true := by kernel_rfl

abbrev Calling := List (Nat × (List MBlk → List SV → Option AR))
def tab (calls : Calling) (loops : List (Nat × PLoop)) : Tab := ⟨tyTab, [], calls, loops, [], [], [], []⟩
theorem tabOk {calls : Calling} {loops : List (Nat × PLoop)} (h : ∀ p ∈ calls, CallOk Try.prog [] p.1 p.2) : TabOk Try.prog (tab calls loops) := ⟨mixed, tys, ints, fun _ _ hf => h _ (assoc_mem hf), fun _ _ hf => by cases hf⟩
theorem mApp {a b : Calling} (h2 : ∀ p ∈ a, CallOk Try.prog [] p.1 p.2) (h' : ∀ p ∈ b, CallOk Try.prog [] p.1 p.2) : ∀ p ∈ a ++ b, CallOk Try.prog [] p.1 p.2 := fun p hp => by
  rcases List.mem_append.1 hp with h | h
  · exact h2 p h
  · exact h' p h
theorem mOne {f : Nat} {F : List MBlk → List SV → Option AR} {r : Calling} (h : CallOk Try.prog [] f F) (h' : ∀ p ∈ r, CallOk Try.prog [] p.1 p.2) : ∀ p ∈ (f, F) :: r, CallOk Try.prog [] p.1 p.2 := fun p hp => by
  rcases List.mem_cons.1 hp with rfl | h1
  · exact h
  · exact h' p h1
theorem mNil : ∀ p ∈ ([] : Calling), CallOk Try.prog [] p.1 p.2 := fun p hp => by cases hp

def EL : Els := ⟨40, 3, 4, 25, 54⟩
theorem w64_eq {n : Int} (h : -9223372036854775808 ≤ n) (h' : n ≤ 9223372036854775807) : IntKind.i64.wrap n = n := by
  simp only [IntKind.wrap, IntKind.signed, IntKind.bits]
  simp
  omega
theorem wrS {n i : Nat} (h : i < n) (hn : n ≤ 1099511627776) : IntKind.i64.wrap ((i : Int) + 1) = ((i + 1 : Nat) : Int) := by
  rw [w64_eq (by omega) (by omega)]; omega
/-- A contract over data, out of its condition. -/
theorem okG {fid : FuncId} {fn : Func} {ks : List AK} {S : List AV → Option (List Prop × RV)} {calls : Calling} (hfn : Try.prog.funcs[fid]? = some fn) (hok : fnOk Try.prog fid) (loops : List AV → List (Nat × PLoop)) (hT : ∀ p ∈ calls, CallOk Try.prog [] p.1 p.2)
    (hres : ∀ av pre rv, S av = some (pre, rv) → rv.ok = true ∧ (∀ t a, rv = .sl t a → a.cols ≠ []))
    (hv : ∀ av pre rv, S av = some (pre, rv) → (∀ p ∈ pre, p) → fnVc (tab calls (loops av)) fn (lcVs 0 av) (lcMem av) (rv.post EL)) : CallOk Try.prog [] fid (genF EL [] ks S) :=
  genOk hfn hok hres fun av pre rv h hp => ⟨_, tabOk (loops := loops av) hT, rfl, rfl, hv av pre rv h hp⟩
end Go.Proofs.Ytiokmglajigngaa
