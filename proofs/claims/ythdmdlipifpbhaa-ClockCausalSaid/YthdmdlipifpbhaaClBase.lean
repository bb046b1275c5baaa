/-
  The clock layer: types, clocks as lists, shapes of contracts.
-/
import Derived.Test.YthdmdlipifpbhaaSx14
import Derived.Test.YthdmdlipifpbhaaRows
namespace Go.Proofs.Ythdmdlipifpbhaa
open Go Go.Proofs.Ythdmdlipifpbhaa.Sx

def tyTab : List (Nat × TI) := [
(3, ⟨0, 1, 8, [.i .i64 0], [], 0, 0, some IntKind.i64, none⟩),
(4, ⟨5, 1, 1, [SV.ff], [], 0, 0, none, none⟩),
(23, ⟨3, 1, 24, [SV.nilsl], [], 27, 2, none, none⟩),
(27, ⟨1, 2, 16, [.i .i64 0, .i .i64 0], [(0, 1), (1, 1)], 0, 0, none, some [some IntKind.i64, some IntKind.i64]⟩),
(33, ⟨3, 1, 24, [SV.nilsl], [], 3, 1, none, none⟩),
(34, ⟨3, 1, 24, [SV.nilsl], [], 23, 1, none, none⟩),
(35, ⟨0, 1, 8, [.i .i64 0], [], 0, 0, some IntKind.i64, none⟩),
(40, ⟨3, 1, 24, [SV.nilsl], [], 4, 1, none, none⟩),
(43, ⟨4, 1, 8, [SV.nilmap], [], 3, 3, none, none⟩)]
theorem tys : ∀ t ti, assoc tyTab t = some ti → tiChk Try.prog t ti = true := by
  intro t ti h
  have key : (tyTab.all fun p => tiChk Try.prog p.1 p.2) = true := by kernel_rfl
  exact List.all_eq_true.1 key _ (assoc_mem h)
theorem ints : ∀ t ti, assoc tyTab t = some ti → intChk Try.prog t ti = true := by
  intro t ti h
  have key : (tyTab.all fun p => intChk Try.prog p.1 p.2) = true := by kernel_rfl
  exact List.all_eq_true.1 key _ (assoc_mem h)
theorem mixed : Try.prog.follows .mixedOrders = true := by kernel_rfl

abbrev Calling := List (Nat × (List MBlk → List SV → Option AR))
def tab (calls : Calling) (loops : List (Nat × PLoop)) : Tab := ⟨tyTab, [], calls, loops⟩
theorem tabOk {calls : Calling} {loops : List (Nat × PLoop)} (h : ∀ p ∈ calls, CallOk Try.prog [] p.1 p.2) : TabOk Try.prog (tab calls loops) := ⟨mixed, tys, ints, fun _ _ hf => h _ (assoc_mem hf)⟩
theorem mApp {a b : Calling} (h2 : ∀ p ∈ a, CallOk Try.prog [] p.1 p.2) (h' : ∀ p ∈ b, CallOk Try.prog [] p.1 p.2) : ∀ p ∈ a ++ b, CallOk Try.prog [] p.1 p.2 := fun p hp => by
  rcases List.mem_append.1 hp with h | h
  · exact h2 p h
  · exact h' p h
theorem mOne {f : Nat} {F : List MBlk → List SV → Option AR} {r : Calling} (h : CallOk Try.prog [] f F) (h' : ∀ p ∈ r, CallOk Try.prog [] p.1 p.2) : ∀ p ∈ (f, F) :: r, CallOk Try.prog [] p.1 p.2 := fun p hp => by
  rcases List.mem_cons.1 hp with rfl | h1
  · exact h
  · exact h' p h1
theorem mNil : ∀ p ∈ ([] : Calling), CallOk Try.prog [] p.1 p.2 := fun p hp => by cases hp

def w64 (n : Int) : Int := IntKind.i64.wrap n
theorem w64_eq {n : Int} (h : -9223372036854775808 ≤ n) (h' : n ≤ 9223372036854775807) : IntKind.i64.wrap n = n := by
  simp only [IntKind.wrap, IntKind.signed, IntKind.bits]
  simp
  omega
theorem wrS {n i : Nat} (h : i < n) (hn : n ≤ 1099511627776) : IntKind.i64.wrap ((i : Int) + 1) = ((i + 1 : Nat) : Int) := by
  rw [w64_eq (by omega) (by omega)]; omega

/-! ### Clocks as lists -/
structure Tk where
  ag : Int
  ct : Int
deriving DecidableEq
def nthT : List Tk → Nat → Tk
  | [], _ => ⟨0, 0⟩
  | x :: r, j => bif Nat.beq j 0 then x else nthT r (j - 1)
def agF (l : List Tk) (j : Nat) : Int := (nthT l j).ag
def ctF (l : List Tk) (j : Nat) : Int := (nthT l j).ct
def clkCols (l : List Tk) : List Col := [.int .i64 (agF l), .int .i64 (ctF l)]
def clkArr (l : List Tk) : MBlk := .arr l.length (clkCols l)
def mkG (g1 g2 : Nat → Int) : Nat → Nat → List Tk
  | _, 0 => []
  | j, n + 1 => ⟨g1 j, g2 j⟩ :: mkG g1 g2 (j + 1) n
def mkL (n : Nat) (g1 g2 : Nat → Int) : List Tk := mkG g1 g2 0 n
theorem mkG_len (g1 g2 : Nat → Int) : ∀ (n j : Nat), (mkG g1 g2 j n).length = n := by
  intro n
  induction n with
  | zero => intro j; rfl
  | succ n ih => intro j; simp [mkG, ih]
@[simp] theorem mkL_len (n : Nat) (g1 g2 : Nat → Int) : (mkL n g1 g2).length = n := mkG_len g1 g2 n 0
theorem nthT_get : ∀ (l : List Tk) (j : Nat) (h : j < l.length), nthT l j = l[j] := by
  intro l
  induction l with
  | nil => intro j h; simp at h
  | cons x r ih =>
    intro j h
    cases j with
    | zero => rfl
    | succ j =>
      simp only [nthT, Nat.succ_sub_one, List.getElem_cons_succ]
      have : Nat.beq (j + 1) 0 = false := rfl
      rw [this, cond_false]
      exact ih j (by simpa using h)
theorem mkG_get (g1 g2 : Nat → Int) : ∀ (n k j : Nat), j < n → (mkG g1 g2 k n)[j]? = some ⟨g1 (k + j), g2 (k + j)⟩ := by
  intro n
  induction n with
  | zero => intro k j h; omega
  | succ n ih =>
    intro k j h
    cases j with
    | zero => rfl
    | succ j =>
      simp only [mkG, List.getElem?_cons_succ]
      rw [ih (k + 1) j (by omega)]
      simp [Nat.add_assoc, Nat.add_comm 1]
theorem nth_mkL {n : Nat} {g1 g2 : Nat → Int} {j : Nat} (h : j < n) : nthT (mkL n g1 g2) j = ⟨g1 j, g2 j⟩ := by
  rw [nthT_get _ _ (by simpa using h)]
  have := mkG_get g1 g2 n 0 j h
  rw [List.getElem?_eq_getElem (by rw [mkG_len]; exact h)] at this
  simpa [mkL] using this
@[simp] theorem mkL_self (l : List Tk) : mkL l.length (agF l) (ctF l) = l := by
  apply List.ext_getElem
  · simp
  · intro j h1 h2
    rw [← nthT_get _ _ h1, nth_mkL h2, ← nthT_get _ _ h2]
    rfl
theorem clk_conv {n : Nat} {g1 g2 : Nat → Int} : colsEq n (clkCols (mkL n g1 g2)) [.int .i64 g1, .int .i64 g2] := by
  refine ⟨fun j hj => ?_, fun j hj => ?_, trivial⟩
  · simp only [agF, nth_mkL hj]
  · simp only [ctF, nth_mkL hj]
theorem nthT_lt {l l' : List Tk} {j : Nat} (h : j < l.length) : nthT (l ++ l') j = nthT l j := by
  rw [nthT_get _ _ (by simp; omega), nthT_get _ _ h, List.getElem_append_left h]
theorem nthT_at {l : List Tk} {x : Tk} : nthT (l ++ [x]) l.length = x := by
  rw [nthT_get _ _ (by simp)]; simp

/-! ### Shapes of contracts -/
/-- A clock among the arguments: its entry (none: nil), its length as the slice has it, as the entry has it, the list. -/
def ck (m : List MBlk) : SV → Option (Option Nat × Nat × Nat × List Tk)
  | .nilsl => some (none, 0, 0, [])
  | .sl r n => match nth m r with
    | some k => match srcOf k with
      | some (n', [.int .i64 g1, .int .i64 g2]) => some (some r, n, n', mkL n g1 g2)
      | some (0, [.any, .any]) => some (some r, n, 0, [])
      | _ => none
    | none => none
  | _ => none
theorem ck_some {m : List MBlk} {x : SV} {q : Option Nat} {n n' : Nat} {l : List Tk} (h : ck m x = some (q, n, n', l)) (hn : n = n') : (∃ r k cols, q = some r ∧ x = .sl r l.length ∧ m[r]? = some k ∧ srcOf k = some (l.length, cols) ∧ colsEq l.length (clkCols l) cols) ∨ (q = none ∧ x = .nilsl ∧ l = []) := by
  subst hn
  unfold ck at h
  split at h
  · simp only [Option.some.injEq, Prod.mk.injEq] at h
    obtain ⟨rfl, rfl, _, rfl⟩ := h
    exact .inr ⟨rfl, rfl, rfl⟩
  · rename_i q k
    split at h
    · rename_i b hb
      split at h
      · rename_i n0 g1 g2 hs
        simp only [Option.some.injEq, Prod.mk.injEq] at h
        obtain ⟨rfl, rfl, rfl, rfl⟩ := h
        refine .inl ⟨_, b, [.int .i64 g1, .int .i64 g2], rfl, ?_⟩
        rw [mkL_len]
        exact ⟨rfl, by rw [← nth_eq]; exact hb, hs, clk_conv⟩
      · rename_i hs
        simp only [Option.some.injEq, Prod.mk.injEq] at h
        obtain ⟨rfl, rfl, rfl, rfl⟩ := h
        exact .inl ⟨_, b, _, rfl, rfl, by rw [← nth_eq]; exact hb, hs, ⟨rfl, rfl, trivial⟩⟩
      · cases h
    · cases h
  · cases h
theorem ck_den {m : List MBlk} {x : SV} {q : Option Nat} {n n' i : Nat} {l : List Tk} {ρ : Env} {f : Nat → Option Nat} {v : Value} (h : ck m x = some (q, n, n', l)) (hn : n = n') (hf : f i = q) (hd : Den ρ x v) : Den (pickEnv f ρ) (.sl i l.length) v := by
  rcases ck_some h hn with ⟨r, k, cols, rfl, rfl, _⟩ | ⟨rfl, rfl, rfl⟩
  · exact hd.slAs hf
  · exact hd.nilAs hf
theorem ck_kn {m : List MBlk} {x : SV} {q : Option Nat} {n n' i : Nat} {l : List Tk} {f : Nat → Option Nat} (h : ck m x = some (q, n, n', l)) (hn : n = n') (hf : f i = q) : (∃ r k, f i = some r ∧ m[r]? = some k ∧ known k (clkArr l)) ∨ (f i = none ∧ ∃ cols, clkArr l = .arr 0 cols) := by
  rcases ck_some h hn with ⟨r, k, cols, rfl, rfl, h1, h2, h3⟩ | ⟨rfl, rfl, rfl⟩
  · exact .inl ⟨r, k, hf, h1, cols, h2, h3⟩
  · exact .inr ⟨hf, _, rfl⟩
theorem kn1 {m : List MBlk} {x : SV} {q : Option Nat} {n n' : Nat} {l : List Tk} (h : ck m x = some (q, n, n', l)) (hn : n = n') : ∀ i k0, [clkArr l][i]? = some k0 → (∃ r k, (fun _ => q : Nat → Option Nat) i = some r ∧ m[r]? = some k ∧ known k k0) ∨ ((fun _ => q : Nat → Option Nat) i = none ∧ ∃ cols, k0 = .arr 0 cols) := fun i k0 hi => by
  cases i with
  | zero => simp at hi; subst hi; exact ck_kn (i := 0) (f := fun _ => q) h hn rfl
  | succ i => simp at hi
def two (q p : Option Nat) : Nat → Option Nat := fun i => bif Nat.beq i 0 then q else p
theorem kn2 {m : List MBlk} {x y : SV} {q p : Option Nat} {n n' k k' : Nat} {l b : List Tk} (h : ck m x = some (q, n, n', l)) (hn : n = n') (h2 : ck m y = some (p, k, k', b)) (hk : k = k') : ∀ i k0, [clkArr l, clkArr b][i]? = some k0 → (∃ r k, two q p i = some r ∧ m[r]? = some k ∧ known k k0) ∨ (two q p i = none ∧ ∃ cols, k0 = .arr 0 cols) := fun i k0 hi => by
  cases i with
  | zero => simp at hi; subst hi; exact ck_kn (i := 0) (f := two q p) h hn rfl
  | succ i =>
    cases i with
    | zero => simp at hi; subst hi; exact ck_kn (i := 1) (f := two q p) h2 hk rfl
    | succ i => simp at hi
def fI1c (g : Int → SV) : List MBlk → List SV → Option AR := fun _ vs => match vs with
  | [.i .i64 n] => some ⟨[], g n, []⟩
  | _ => none
def fC1 (pre : List Tk → Prop) (g : List Tk → SV) : List MBlk → List SV → Option AR := fun m vs => match vs with
  | [x] => match ck m x with
    | some (_, n, n', l) => some ⟨[n = n', pre l], g l, []⟩
    | none => none
  | _ => none
def fC1i (pre : List Tk → Int → Prop) (g : List Tk → Int → SV) : List MBlk → List SV → Option AR := fun m vs => match vs with
  | [x, .i .i64 a] => match ck m x with
    | some (_, n, n', l) => some ⟨[n = n', pre l a], g l a, []⟩
    | none => none
  | _ => none
def fC2 (pre : List Tk → List Tk → Prop) (g : List Tk → List Tk → SV) : List MBlk → List SV → Option AR := fun m vs => match vs with
  | [x, y] => match ck m x, ck m y with
    | some (_, n, n', a), some (_, k, k', b) => some ⟨[n = n', k = k', pre a b], g a b, []⟩
    | _, _ => none
  | _ => none
def rC1i (pre : List Tk → Int → Prop) (g : List Tk → Int → List Tk) : List MBlk → List SV → Option AR := fun m vs => match vs with
  | [x, .i .i64 a] => match ck m x with
    | some (_, n, n', l) => some ⟨[n = n', pre l a], .sl m.length (g l a).length, [.oarr 27 (g l a).length (clkCols (g l a))]⟩
    | none => none
  | _ => none
def rC2 (pre : List Tk → List Tk → Prop) (g : List Tk → List Tk → List Tk) : List MBlk → List SV → Option AR := fun m vs => match vs with
  | [x, y] => match ck m x, ck m y with
    | some (_, n, n', a), some (_, k, k', b) => some ⟨[n = n', k = k', pre a b], .sl m.length (g a b).length, [.oarr 27 (g a b).length (clkCols (g a b))]⟩
    | _, _ => none
  | _ => none

section
variable {fid : FuncId} {fn : Func} {calls : Calling}
theorem okC1 (hfn : Try.prog.funcs[fid]? = some fn) (hok : fnOk Try.prog fid) {pre : List Tk → Prop} {g : List Tk → SV} (hg : ∀ l, (g l).ltB 0 = true) (loops : List Tk → List (Nat × PLoop)) (hT : ∀ p ∈ calls, CallOk Try.prog [] p.1 p.2)
    (hv : ∀ l, pre l → fnVc (tab calls (loops l)) fn [.sl 0 l.length] [clkArr l] (plainIs (g l))) : CallOk Try.prog [] fid (fC1 pre g) := by
  refine callOk_nil hfn hok fun m vs ar h hp => ?_
  unfold fC1 at h
  split at h
  · rename_i x
    split at h
    · rename_i r n n' l hx
      simp only [Option.some.injEq] at h
      subst h
      have hn : n = n' := hp _ (by simp)
      exact ⟨_, tabOk (loops := loops l) hT, fun _ => r, [clkArr l], [.sl 0 l.length], fun ρ xs h => h.conv2 (fun v hv => ck_den hx hn rfl hv) (fun _ h => h.nilc), rfl, rfl, kn1 hx hn, fun g i hi => absurd hi (by simp [tab, assoc]), .inl ⟨rfl, hg _, hv _ (hp _ (by simp))⟩⟩
    · cases h
  · cases h
theorem okC1i (hfn : Try.prog.funcs[fid]? = some fn) (hok : fnOk Try.prog fid) {pre : List Tk → Int → Prop} {g : List Tk → Int → SV} (hg : ∀ l a, (g l a).ltB 0 = true) (loops : List Tk → Int → List (Nat × PLoop)) (hT : ∀ p ∈ calls, CallOk Try.prog [] p.1 p.2)
    (hv : ∀ l a, pre l a → fnVc (tab calls (loops l a)) fn [.sl 0 l.length, .i .i64 a] [clkArr l] (plainIs (g l a))) : CallOk Try.prog [] fid (fC1i pre g) := by
  refine callOk_nil hfn hok fun m vs ar h hp => ?_
  unfold fC1i at h
  split at h
  · rename_i x a
    split at h
    · rename_i r n n' l hx
      simp only [Option.some.injEq] at h
      subst h
      have hn : n = n' := hp _ (by simp)
      exact ⟨_, tabOk (loops := loops l a) hT, fun _ => r, [clkArr l], [.sl 0 l.length, .i .i64 a], fun ρ xs h => h.conv2 (fun v hv => ck_den hx hn rfl hv) (fun _ h => h.conv2 (fun v hv => hv.iAs) (fun _ h => h.nilc)), rfl, rfl, kn1 hx hn, fun g i hi => absurd hi (by simp [tab, assoc]), .inl ⟨rfl, hg _ _, hv _ _ (hp _ (by simp))⟩⟩
    · cases h
  · cases h
theorem okR1i (hfn : Try.prog.funcs[fid]? = some fn) (hok : fnOk Try.prog fid) {pre : List Tk → Int → Prop} {g : List Tk → Int → List Tk} (loops : List Tk → Int → List (Nat × PLoop)) (hT : ∀ p ∈ calls, CallOk Try.prog [] p.1 p.2)
    (hv : ∀ l a, pre l a → fnVc (tab calls (loops l a)) fn [.sl 0 l.length, .i .i64 a] [clkArr l] (resIs (.sl 0 (g l a).length) 27 (g l a).length (clkCols (g l a)))) : CallOk Try.prog [] fid (rC1i pre g) := by
  refine callOk_nil hfn hok fun m vs ar h hp => ?_
  unfold rC1i at h
  split at h
  · rename_i x a
    split at h
    · rename_i r n n' l hx
      simp only [Option.some.injEq] at h
      subst h
      have hn : n = n' := hp _ (by simp)
      exact ⟨_, tabOk (loops := loops l a) hT, fun _ => r, [clkArr l], [.sl 0 l.length, .i .i64 a], fun ρ xs h => h.conv2 (fun v hv => ck_den hx hn rfl hv) (fun _ h => h.conv2 (fun v hv => hv.iAs) (fun _ h => h.nilc)), rfl, rfl, kn1 hx hn, fun g i hi => absurd hi (by simp [tab, assoc]), .inr ⟨.sl 0 _, 27, _, _, rfl, by simp [clkCols], rfl, rfl, hv _ _ (hp _ (by simp))⟩⟩
    · cases h
  · cases h
theorem okC2 (hfn : Try.prog.funcs[fid]? = some fn) (hok : fnOk Try.prog fid) {pre : List Tk → List Tk → Prop} {g : List Tk → List Tk → SV} (hg : ∀ a b, (g a b).ltB 0 = true) (loops : List Tk → List Tk → List (Nat × PLoop)) (hT : ∀ p ∈ calls, CallOk Try.prog [] p.1 p.2)
    (hv : ∀ a b, pre a b → fnVc (tab calls (loops a b)) fn [.sl 0 a.length, .sl 1 b.length] [clkArr a, clkArr b] (plainIs (g a b))) : CallOk Try.prog [] fid (fC2 pre g) := by
  refine callOk_nil hfn hok fun m vs ar h hp => ?_
  unfold fC2 at h
  split at h
  · rename_i x y
    split at h
    · rename_i r n n' l q k k' b hx hy
      simp only [Option.some.injEq] at h
      subst h
      have hn : n = n' := hp _ (by simp)
      have hk : k = k' := hp _ (by simp)
      exact ⟨_, tabOk (loops := loops l b) hT, two r q, [clkArr l, clkArr b], [.sl 0 l.length, .sl 1 b.length], fun ρ xs h => h.conv2 (fun v hv => ck_den hx hn rfl hv) (fun _ h => h.conv2 (fun v hv => ck_den hy hk rfl hv) (fun _ h => h.nilc)), rfl, rfl, kn2 hx hn hy hk, fun g i hi => absurd hi (by simp [tab, assoc]), .inl ⟨rfl, hg _ _, hv _ _ (hp _ (by simp))⟩⟩
    · cases h
  · cases h
theorem okR2 (hfn : Try.prog.funcs[fid]? = some fn) (hok : fnOk Try.prog fid) {pre : List Tk → List Tk → Prop} {g : List Tk → List Tk → List Tk} (loops : List Tk → List Tk → List (Nat × PLoop)) (hT : ∀ p ∈ calls, CallOk Try.prog [] p.1 p.2)
    (hv : ∀ a b, pre a b → fnVc (tab calls (loops a b)) fn [.sl 0 a.length, .sl 1 b.length] [clkArr a, clkArr b] (resIs (.sl 0 (g a b).length) 27 (g a b).length (clkCols (g a b)))) : CallOk Try.prog [] fid (rC2 pre g) := by
  refine callOk_nil hfn hok fun m vs ar h hp => ?_
  unfold rC2 at h
  split at h
  · rename_i x y
    split at h
    · rename_i r n n' l q k k' b hx hy
      simp only [Option.some.injEq] at h
      subst h
      have hn : n = n' := hp _ (by simp)
      have hk : k = k' := hp _ (by simp)
      exact ⟨_, tabOk (loops := loops l b) hT, two r q, [clkArr l, clkArr b], [.sl 0 l.length, .sl 1 b.length], fun ρ xs h => h.conv2 (fun v hv => ck_den hx hn rfl hv) (fun _ h => h.conv2 (fun v hv => ck_den hy hk rfl hv) (fun _ h => h.nilc)), rfl, rfl, kn2 hx hn hy hk, fun g i hi => absurd hi (by simp [tab, assoc]), .inr ⟨.sl 0 _, 27, _, _, rfl, by simp [clkCols], rfl, rfl, hv _ _ (hp _ (by simp))⟩⟩
    · cases h
  · cases h
end
theorem ltB_b (b : Bool) (n : Nat) : (SV.b b).ltB n = true := rfl
end Go.Proofs.Ythdmdlipifpbhaa
