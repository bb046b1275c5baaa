/-
  A part of the proof (Cl7).
-/
import Derived.Test.YthdmdlipifpbhaaClRef
import Derived.Test.YthdmdlipifpbhaaClLaw1
namespace Go.Proofs.Ythdmdlipifpbhaa
open Go Go.Proofs.Ythdmdlipifpbhaa.Sx
set_option maxRecDepth 100000
set_option linter.unusedSimpArgs false
set_option linter.unusedVariables false
def kVr : Nat × (List MBlk → List SV → Option AR) := (13, fC1 L40 fun l => .b (validL l))
def kCr : Nat × (List MBlk → List SV → Option AR) := (29, fC1i (fun l _ => L40 l) fun l a => .i .i64 (cntL l a))
def kLr : Nat × (List MBlk → List SV → Option AR) := (22, fC2 (fun a b => L40 a ∧ L40 b) fun a b => .b (rlL a b))
theorem wrT {n i : Nat} (h : i < n) (hn : n ≤ 4398046511104) : IntKind.i64.wrap ((i : Int) + 1) = ((i + 1 : Nat) : Int) := by
  rw [w64_eq (by omega) (by omega)]; omega
theorem okR2' {fid : FuncId} {fn : Func} {calls : List Tk → List Tk → Calling} (hfn : Try.prog.funcs[fid]? = some fn) (hok : fnOk Try.prog fid) {pre : List Tk → List Tk → Prop} {g : List Tk → List Tk → List Tk} (loops : List Tk → List Tk → List (Nat × PLoop)) (hT : ∀ a b, ∀ p ∈ calls a b, CallOk Try.prog [] p.1 p.2)
    (hv : ∀ a b, pre a b → fnVc (tab (calls a b) (loops a b)) fn [.sl 0 a.length, .sl 1 b.length] [clkArr a, clkArr b] (resIs (.sl 0 (g a b).length) 27 (g a b).length (clkCols (g a b)))) : CallOk Try.prog [] fid (rC2 pre g) := by
  refine callOk_nil hfn hok fun m vs ar h hp => ?_
  unfold rC2 at h
  split at h
  · rename_i x y
    split at h
    · rename_i r n n' l q k k' b hx hy
      simp only [Option.some.injEq] at h
      subst h
      have hn : n = n' := hp _ (by simp)
      have hk : k = k' := hp _ (by simp)
      exact ⟨_, tabOk (loops := loops l b) (hT l b), two r q, [clkArr l, clkArr b], [.sl 0 l.length, .sl 1 b.length], fun ρ xs h => h.conv2 (fun v hv => ck_den hx hn rfl hv) (fun _ h => h.conv2 (fun v hv => ck_den hy hk rfl hv) (fun _ h => h.nilc)), rfl, rfl, kn2 hx hn hy hk, fun g i hi => absurd hi (by simp [tab, assoc]), .inr ⟨.sl 0 _, 27, _, _, rfl, by simp [clkCols], rfl, rfl, hv _ _ (hp _ (by simp))⟩⟩
    · cases h
  · cases h
theorem okR1i' {fid : FuncId} {fn : Func} {calls : List Tk → Int → Calling} (hfn : Try.prog.funcs[fid]? = some fn) (hok : fnOk Try.prog fid) {pre : List Tk → Int → Prop} {g : List Tk → Int → List Tk} (loops : List Tk → Int → List (Nat × PLoop)) (hT : ∀ l a, ∀ p ∈ calls l a, CallOk Try.prog [] p.1 p.2)
    (hv : ∀ l a, pre l a → fnVc (tab (calls l a) (loops l a)) fn [.sl 0 l.length, .i .i64 a] [clkArr l] (resIs (.sl 0 (g l a).length) 27 (g l a).length (clkCols (g l a)))) : CallOk Try.prog [] fid (rC1i pre g) := by
  refine callOk_nil hfn hok fun m vs ar h hp => ?_
  unfold rC1i at h
  split at h
  · rename_i x a
    split at h
    · rename_i r n n' l hx
      simp only [Option.some.injEq] at h
      subst h
      have hn : n = n' := hp _ (by simp)
      exact ⟨_, tabOk (loops := loops l a) (hT l a), fun _ => r, [clkArr l], [.sl 0 l.length, .i .i64 a], fun ρ xs h => h.conv2 (fun v hv => ck_den hx hn rfl hv) (fun _ h => h.conv2 (fun v hv => hv.iAs) (fun _ h => h.nilc)), rfl, rfl, kn1 hx hn, fun g i hi => absurd hi (by simp [tab, assoc]), .inr ⟨.sl 0 _, 27, _, _, rfl, by simp [clkCols], rfl, rfl, hv _ _ (hp _ (by simp))⟩⟩
    · cases h
  · cases h
theorem apG {g : Nat → Int} {x : Int} {i : Nat} (h : x = g i) : ∀ j, j < i + 1 → (bif Nat.blt j i then g j else pickI [x] (j - i)) = g j := fun j hj => by
  by_cases hl : j < i
  · have hb : Nat.blt j i = true := by rw [Nat.blt_eq]; exact hl
    rw [hb, cond_true]
  · have hb : Nat.blt j i = false := Bool.eq_false_iff.2 fun e => hl (by rw [Nat.blt_eq] at e; exact e)
    obtain rfl : j = i := by omega
    rw [hb, cond_false, Nat.sub_self]
    exact h
theorem in_lt {l l' : List Int} {j : Nat} (h : j < l.length) : inF (l ++ l') j = inF l j := by
  rw [inF_get _ _ (by simp; omega), inF_get _ _ h, List.getElem_append_left h]
theorem in_at {l : List Int} {x : Int} : inF (l ++ [x]) l.length = x := by
  rw [inF_get _ _ (by simp)]; simp
theorem apI (o : List Int) (t : Int) : ∀ j, j < (o ++ [t]).length → (bif Nat.blt j o.length then inF o j else pickI [t] (j - o.length)) = inF (o ++ [t]) j := fun j hj => by
  by_cases h : j < o.length
  · have hb : Nat.blt j o.length = true := by rw [Nat.blt_eq]; exact h
    rw [hb, cond_true, in_lt h]
  · have hb : Nat.blt j o.length = false := Bool.eq_false_iff.2 fun e => h (by rw [Nat.blt_eq] at e; exact e)
    have : j = o.length := by simp at hj; omega
    subst this
    rw [hb, cond_false, in_at, Nat.sub_self]
    rfl
theorem drop_nil' {a : List Tk} {i : Nat} (h : a.length ≤ i) : a.drop i = [] := List.drop_eq_nil_of_le h
theorem ags_end {a b : List Tk} {i j f : Nat} (hi : a.length ≤ i) (hj : b.length ≤ j) : agsF f (a.drop i) (b.drop j) = [] := by
  rw [drop_nil' hi, drop_nil' hj]
  cases f <;> rfl
theorem ags_A {a b : List Tk} {i j f : Nat} (hi : i < a.length) (h : b.length ≤ j ∨ (j < b.length ∧ agF a i < agF b j)) : agsF (f + 1) (a.drop i) (b.drop j) = agF a i :: agsF f (a.drop (i + 1)) (b.drop j) := by
  rw [drop_cons' hi]
  rcases h with h | ⟨h, h'⟩
  · rw [drop_nil' h]; rfl
  · rw [drop_cons' h]
    simp only [agsF, decide_eq_true h', cond_true]
theorem ags_B {a b : List Tk} {i j f : Nat} (hj : j < b.length) (h : a.length ≤ i ∨ (i < a.length ∧ ¬ agF a i < agF b j ∧ agF a i ≠ agF b j)) : agsF (f + 1) (a.drop i) (b.drop j) = agF b j :: agsF f (a.drop i) (b.drop (j + 1)) := by
  rcases h with h | ⟨h, h', h''⟩
  · rw [drop_nil' h, drop_cons' hj]; rfl
  · rw [drop_cons' hj, drop_cons' h]
    have e : (agF a i == agF b j) = false := by simpa using h''
    simp only [agsF, decide_eq_false h', e, cond_false]
theorem ags_C {a b : List Tk} {i j f : Nat} (hj : j < b.length) (hi : i < a.length) (h : agF a i = agF b j) : agsF (f + 1) (a.drop i) (b.drop j) = agF b j :: agsF f (a.drop (i + 1)) (b.drop (j + 1)) := by
  rw [drop_cons' hj, drop_cons' hi]
  have e : (agF a i == agF b j) = true := by simpa using h
  simp only [agsF, h, Int.lt_irrefl, decide_false, beq_self_eq_true, cond_true, cond_false]
theorem v31_eq (a b : List Tk) : (fnVc (tab [] [(0, .of (lAgs a b))]) Try.f31 [.sl 0 a.length, .sl 1 b.length] [clkArr a, clkArr b] (resIs (.sl 0 (agsL a b).length) 3 (agsL a b).length [.int .i64 (inF (agsL a b))])) = (∃ (x : PUnit),
 (∃ (x : ASt),
 (x.i ≤ a.length ∧
 x.j ≤ b.length ∧
 x.o.length ≤ x.i + x.j ∧
 a.length - x.i + (b.length - x.j) ≤ x.f ∧
 x.o ++ agsF x.f (List.drop x.i a) (List.drop x.j b) = agsL a b) ∧
 (0 = x.o.length ∧ 0 = (↑x.i : Int) ∧ 0 = (↑x.j : Int) ∧ True) ∧
 (0 = x.o.length ∧ x.o.length = 0 ∧ True) ∧ True) ∧
 ∀ (x_1 : ASt),
 x_1.i ≤ a.length ∧
 x_1.j ≤ b.length ∧
 x_1.o.length ≤ x_1.i + x_1.j ∧
 a.length - x_1.i + (b.length - x_1.j) ≤ x_1.f ∧
 x_1.o ++ agsF x_1.f (List.drop x_1.i a) (List.drop x_1.j b) = agsL a b →
 ((decide ((↑x_1.i : Int) < (↑a.length : Int)) || decide ((↑x_1.j : Int) < (↑b.length : Int))) = true →
 (decide ((↑x_1.i : Int) < (↑a.length : Int)) = true →
 ((↑x_1.j : Int) == (↑b.length : Int)) = false →
 0 ≤ (↑x_1.i : Int) ∧ (↑x_1.i : Int) < (↑a.length : Int)) ∧
 (decide ((↑x_1.i : Int) < (↑a.length : Int)) = true →
 ((↑x_1.j : Int) == (↑b.length : Int)) = false → x_1.i < a.length) ∧
 (decide ((↑x_1.i : Int) < (↑a.length : Int)) = true →
 ((↑x_1.j : Int) == (↑b.length : Int)) = false →
 0 ≤ (↑x_1.j : Int) ∧ (↑x_1.j : Int) < (↑b.length : Int)) ∧
 (decide ((↑x_1.i : Int) < (↑a.length : Int)) = true →
 ((↑x_1.j : Int) == (↑b.length : Int)) = false → x_1.j < b.length) ∧
 (((↑x_1.j : Int) == (↑b.length : Int) ||
 decide ((↑x_1.i : Int) < (↑a.length : Int)) && decide (agF a x_1.i < agF b x_1.j)) =
 true →
 (0 ≤ (↑x_1.i : Int) ∧ (↑x_1.i : Int) < (↑a.length : Int)) ∧
 x_1.i < a.length ∧
 x_1.o.length = x_1.o.length ∧
 1 = 1 ∧
 0 < 1 ∧
 (x_1.o.length + 1) * 8 ≤ 140737488355328 ∧
 x_1.o.length + 1 ≤ 9223372036854775807 ∧
 ∃ (x_2 : ASt),
 (x_2.i ≤ a.length ∧
 x_2.j ≤ b.length ∧
 x_2.o.length ≤ x_2.i + x_2.j ∧
 a.length - x_2.i + (b.length - x_2.j) ≤ x_2.f ∧
 x_2.o ++ agsF x_2.f (List.drop x_2.i a) (List.drop x_2.j b) =
 agsL a b) ∧
 ((PLoop.of (lAgs a b)).ann x).mu x_2 < ((PLoop.of (lAgs a b)).ann x).mu x_1 ∧
 (a.length = a.length ∧
 b.length = b.length ∧
 0 = 0 ∧
 x_1.o.length + 1 = x_2.o.length ∧
 IntKind.i64.wrap ((↑x_1.i : Int) + 1) = (↑x_2.i : Int) ∧
 (↑x_1.j : Int) = (↑x_2.j : Int) ∧ True) ∧
 (a.length = a.length ∧
 (∀ (j : Nat), j < a.length → agF a j = agF a j) ∧
 (∀ (j : Nat), j < a.length → ctF a j = ctF a j) ∧ True) ∧
 (b.length = b.length ∧
 (∀ (j : Nat), j < b.length → agF b j = agF b j) ∧
 (∀ (j : Nat), j < b.length → ctF b j = ctF b j) ∧ True) ∧
 (0 = 0 ∧ True ∧ True) ∧
 (x_1.o.length + 1 = x_2.o.length ∧
 (∀ (j : Nat),
 j < x_2.o.length →
 (bif j.blt x_1.o.length then inF x_1.o j
 else pickI [agF a x_1.i] (j - x_1.o.length)) =
 inF x_2.o j) ∧
 True) ∧
 True) ∧
 (((↑x_1.j : Int) == (↑b.length : Int) ||
 decide ((↑x_1.i : Int) < (↑a.length : Int)) && decide (agF a x_1.i < agF b x_1.j)) =
 false →
 (0 ≤ (↑x_1.j : Int) ∧ (↑x_1.j : Int) < (↑b.length : Int)) ∧
 x_1.j < b.length ∧
 x_1.o.length = x_1.o.length ∧
 1 = 1 ∧
 0 < 1 ∧
 (x_1.o.length + 1) * 8 ≤ 140737488355328 ∧
 x_1.o.length + 1 ≤ 9223372036854775807 ∧
 (decide ((↑x_1.i : Int) < (↑a.length : Int)) = true →
 0 ≤ (↑x_1.i : Int) ∧ (↑x_1.i : Int) < (↑a.length : Int)) ∧
 (decide ((↑x_1.i : Int) < (↑a.length : Int)) = true → x_1.i < a.length) ∧
 (decide ((↑x_1.i : Int) < (↑a.length : Int)) = true →
 0 ≤ (↑x_1.j : Int) ∧ (↑x_1.j : Int) < (↑b.length : Int)) ∧
 (decide ((↑x_1.i : Int) < (↑a.length : Int)) = true → x_1.j < b.length) ∧
 ((decide ((↑x_1.i : Int) < (↑a.length : Int)) &&
 agF a x_1.i == agF b x_1.j) =
 true →
 ∃ (x_2 : ASt),
 (x_2.i ≤ a.length ∧
 x_2.j ≤ b.length ∧
 x_2.o.length ≤ x_2.i + x_2.j ∧
 a.length - x_2.i + (b.length - x_2.j) ≤ x_2.f ∧
 x_2.o ++
 agsF x_2.f (List.drop x_2.i a) (List.drop x_2.j b) =
 agsL a b) ∧
 ((PLoop.of (lAgs a b)).ann x).mu x_2 <
 ((PLoop.of (lAgs a b)).ann x).mu x_1 ∧
 (a.length = a.length ∧
 b.length = b.length ∧
 0 = 0 ∧
 x_1.o.length + 1 = x_2.o.length ∧
 IntKind.i64.wrap ((↑x_1.i : Int) + 1) =
 (↑x_2.i : Int) ∧
 IntKind.i64.wrap ((↑x_1.j : Int) + 1) =
 (↑x_2.j : Int) ∧
 True) ∧
 (a.length = a.length ∧
 (∀ (j : Nat), j < a.length → agF a j = agF a j) ∧
 (∀ (j : Nat), j < a.length → ctF a j = ctF a j) ∧
 True) ∧
 (b.length = b.length ∧
 (∀ (j : Nat), j < b.length → agF b j = agF b j) ∧
 (∀ (j : Nat), j < b.length → ctF b j = ctF b j) ∧
 True) ∧
 (0 = 0 ∧ True ∧ True) ∧
 (x_1.o.length + 1 = x_2.o.length ∧
 (∀ (j : Nat),
 j < x_2.o.length →
 (bif j.blt x_1.o.length then inF x_1.o j
 else
 pickI [agF b x_1.j] (j - x_1.o.length)) =
 inF x_2.o j) ∧
 True) ∧
 True) ∧
 ((decide ((↑x_1.i : Int) < (↑a.length : Int)) &&
 agF a x_1.i == agF b x_1.j) =
 false →
 ∃ (x_2 : ASt),
 (x_2.i ≤ a.length ∧
 x_2.j ≤ b.length ∧
 x_2.o.length ≤ x_2.i + x_2.j ∧
 a.length - x_2.i + (b.length - x_2.j) ≤ x_2.f ∧
 x_2.o ++
 agsF x_2.f (List.drop x_2.i a) (List.drop x_2.j b) =
 agsL a b) ∧
 ((PLoop.of (lAgs a b)).ann x).mu x_2 <
 ((PLoop.of (lAgs a b)).ann x).mu x_1 ∧
 (a.length = a.length ∧
 b.length = b.length ∧
 0 = 0 ∧
 x_1.o.length + 1 = x_2.o.length ∧
 (↑x_1.i : Int) = (↑x_2.i : Int) ∧
 IntKind.i64.wrap ((↑x_1.j : Int) + 1) =
 (↑x_2.j : Int) ∧
 True) ∧
 (a.length = a.length ∧
 (∀ (j : Nat), j < a.length → agF a j = agF a j) ∧
 (∀ (j : Nat), j < a.length → ctF a j = ctF a j) ∧
 True) ∧
 (b.length = b.length ∧
 (∀ (j : Nat), j < b.length → agF b j = agF b j) ∧
 (∀ (j : Nat), j < b.length → ctF b j = ctF b j) ∧
 True) ∧
 (0 = 0 ∧ True ∧ True) ∧
 (x_1.o.length + 1 = x_2.o.length ∧
 (∀ (j : Nat),
 j < x_2.o.length →
 (bif j.blt x_1.o.length then inF x_1.o j
 else
 pickI [agF b x_1.j] (j - x_1.o.length)) =
 inF x_2.o j) ∧
 True) ∧
 True))) ∧
 ((decide ((↑x_1.i : Int) < (↑a.length : Int)) || decide ((↑x_1.j : Int) < (↑b.length : Int))) = false →
 x_1.o.length = (agsL a b).length ∧
 ((∀ (j : Nat), j < (agsL a b).length → inF x_1.o j = inF (agsL a b) j) ∧ True) ∧
 x_1.o.length = (agsL a b).length)) := by kernel_rfl
theorem v31 (a b : List Tk) (hA : a.length ≤ 1099511627776) (hB : b.length ≤ 1099511627776) : fnVc (tab [] [(0, .of (lAgs a b))]) Try.f31 [.sl 0 a.length, .sl 1 b.length] [clkArr a, clkArr b] (resIs (.sl 0 (agsL a b).length) 3 (agsL a b).length [.int .i64 (inF (agsL a b))]) := by
  rw [v31_eq]
  simp only [mkL_self, eq_self, true_and, and_true, implies_true, imp_self, hA, hB]
  refine ⟨⟨⟩, ⟨⟨0, 0, a.length + b.length, []⟩, ⟨Nat.zero_le _, Nat.zero_le _, by simp, by simp, rfl⟩, ⟨rfl, rfl, rfl⟩, rfl, rfl⟩, fun x hx => ?_⟩
  obtain ⟨i, j, f, o⟩ := x
  obtain ⟨h1, h2, h3, h4, h5⟩ := hx
  simp only at h1 h2 h3 h4 h5 ⊢
  refine ⟨fun hc => ?_, fun hc => ?_⟩
  · have hf : 0 < f := by simp at hc; omega
    obtain ⟨g, rfl⟩ : ∃ g, f = g + 1 := ⟨f - 1, by omega⟩
    refine ⟨fun c1 c2 => ?_, fun c1 c2 => ?_, fun c1 c2 => ?_, fun c1 c2 => ?_, fun hd => ?_, fun hd => ?_⟩
    · simp at c1; omega
    · simp at c1; omega
    · simp at c2; omega
    · simp at c2; omega
    · have hi : i < a.length := by simp at hc hd; omega
      have hj : b.length ≤ j ∨ (j < b.length ∧ agF a i < agF b j) := by
        simp at hd
        rcases hd with hd | hd
        · left; omega
        · rcases Nat.lt_or_ge j b.length with h | h
          · exact .inr ⟨h, hd.2⟩
          · exact .inl h
      rw [ags_A hi hj] at h5
      have ap := apI o (agF a i)
      simp only [List.length_append, List.length_singleton] at ap
      refine ⟨⟨by omega, by omega⟩, hi, by omega, by omega, by omega, ⟨i + 1, j, g, o ++ [agF a i]⟩, ⟨(by omega : i + 1 ≤ a.length), h2, by simp; omega, (by omega : a.length - (i + 1) + (b.length - j) ≤ g), by rw [List.append_assoc]; exact h5⟩, mu_of (by simp only [lAgs]; omega), ?_⟩
      simp only [List.length_append, List.length_singleton, true_and, and_true]
      exact ⟨wrS hi hA, ap⟩
    · have hj : j < b.length := by simp at hc hd; omega
      have hn : ¬ (i < a.length ∧ agF a i < agF b j) := fun h => by simp at hd; have := hd.2 (by omega); omega
      refine ⟨⟨by omega, by omega⟩, hj, by omega, by omega, by omega, fun c => ?_, fun c => ?_, fun c => ?_, fun c => ?_, fun he => ?_, fun he => ?_⟩
      · simp at c; omega
      · simp at c; omega
      · omega
      · omega
      · obtain ⟨hi, he⟩ : i < a.length ∧ agF a i = agF b j := by simp at he; exact ⟨by omega, he.2⟩
        rw [ags_C hj hi he] at h5
        have ap := apI o (agF b j)
        simp only [List.length_append, List.length_singleton] at ap
        refine ⟨⟨i + 1, j + 1, g, o ++ [agF b j]⟩, ⟨(by omega : i + 1 ≤ a.length), (by omega : j + 1 ≤ b.length), by simp; omega, (by omega : a.length - (i + 1) + (b.length - (j + 1)) ≤ g), by rw [List.append_assoc]; exact h5⟩, mu_of (by simp only [lAgs]; omega), ?_⟩
        simp only [List.length_append, List.length_singleton, true_and, and_true]
        exact ⟨⟨wrS hi hA, wrS hj hB⟩, ap⟩
      · have hB' : a.length ≤ i ∨ (i < a.length ∧ ¬ agF a i < agF b j ∧ agF a i ≠ agF b j) := by
          rcases Nat.lt_or_ge i a.length with h | h
          · refine .inr ⟨h, fun h' => hn ⟨h, h'⟩, fun h' => ?_⟩
            simp at he
            exact he (by omega) h'
          · exact .inl h
        rw [ags_B hj hB'] at h5
        have ap := apI o (agF b j)
        simp only [List.length_append, List.length_singleton] at ap
        refine ⟨⟨i, j + 1, g, o ++ [agF b j]⟩, ⟨h1, (by omega : j + 1 ≤ b.length), by simp; omega, (by omega : a.length - i + (b.length - (j + 1)) ≤ g), by rw [List.append_assoc]; exact h5⟩, mu_of (by simp only [lAgs]; omega), ?_⟩
        simp only [List.length_append, List.length_singleton, true_and, and_true]
        exact ⟨wrS hj hB, ap⟩
  · rw [ags_end (by simp at hc; omega) (by simp at hc; omega), List.append_nil] at h5
    subst h5
    exact ⟨rfl, fun _ _ => rfl, rfl⟩
theorem fo31 : fnOk Try.prog 31 := ⟨Try.f31, Try.func31, by kernel_rfl, by kernel_rfl⟩
theorem c31 (L : List Int) : CallOk Try.prog [] 31 (rNI L) := by
  refine callOk_nil Try.func31 fo31 fun m vs ar h hp => ?_
  unfold rNI at h
  split at h
  · rename_i x y
    split at h
    · rename_i r n n' l q k k' b hx hy
      simp only [Option.some.injEq] at h
      subst h
      have hn : n = n' := hp _ (by simp)
      have hk : k = k' := hp _ (by simp)
      have hl : L40 l ∧ L40 b := hp _ (by simp)
      have e : agsL l b = L := hp _ (by simp)
      subst e
      exact ⟨_, tabOk (loops := [(0, .of (lAgs l b))]) mNil, two r q, [clkArr l, clkArr b], [.sl 0 l.length, .sl 1 b.length], fun ρ xs h => h.conv2 (fun v hv => ck_den hx hn rfl hv) (fun _ h => h.conv2 (fun v hv => ck_den hy hk rfl hv) (fun _ h => h.nilc)), rfl, rfl, kn2 hx hn hy hk, fun g i hi => absurd hi (by simp [tab, assoc]), .inr ⟨.sl 0 _, 3, _, _, rfl, by simp, rfl, rfl, v31 l b hl.1 hl.2⟩⟩
    · cases h
  · cases h
theorem v22_eq (a b : List Tk) : (fnVc (tab [kVr, kCr] [(0, .of (lRl a b))]) Try.f22 [.sl 0 a.length, .sl 1 b.length] [clkArr a, clkArr b] (plainIs (.b (rlL a b)))) = (a.length = a.length ∧
 (mkL a.length (agF a) (ctF a)).length ≤ 1099511627776 ∧
 ((!validL (mkL a.length (agF a) (ctF a))) = false → b.length = b.length) ∧
 ((!validL (mkL a.length (agF a) (ctF a))) = false → (mkL b.length (agF b) (ctF b)).length ≤ 1099511627776) ∧
 ((!validL (mkL a.length (agF a) (ctF a)) || !validL (mkL b.length (agF b) (ctF b))) = true → false = rlL a b) ∧
 ((!validL (mkL a.length (agF a) (ctF a)) || !validL (mkL b.length (agF b) (ctF b))) = false →
 ∃ (x : PUnit),
 (∃ (x : Nat),
 (x ≤ a.length ∧ ∀ (i' : Nat), i' < x → rlB a b i' = true) ∧ (0 = (↑x : Int) ∧ True) ∧ True) ∧
 ∀ (x_1 : Nat),
 (x_1 ≤ a.length ∧ ∀ (i' : Nat), i' < x_1 → rlB a b i' = true) →
 (decide ((↑x_1 : Int) < (↑a.length : Int)) = true →
 (0 ≤ (↑x_1 : Int) ∧ (↑x_1 : Int) < (↑a.length : Int)) ∧
 x_1 < a.length ∧
 (0 ≤ (↑x_1 : Int) ∧ (↑x_1 : Int) < (↑a.length : Int)) ∧
 x_1 < a.length ∧
 b.length = b.length ∧
 (mkL b.length (agF b) (ctF b)).length ≤ 1099511627776 ∧
 (decide (ctF a x_1 > cntL (mkL b.length (agF b) (ctF b)) (agF a x_1)) = true →
 false = rlL a b) ∧
 (decide (ctF a x_1 > cntL (mkL b.length (agF b) (ctF b)) (agF a x_1)) = false →
 ∃ (x_2 : Nat),
 (x_2 ≤ a.length ∧ ∀ (i' : Nat), i' < x_2 → rlB a b i' = true) ∧
 ((PLoop.of (lRl a b)).ann x).mu x_2 < ((PLoop.of (lRl a b)).ann x).mu x_1 ∧
 (a.length = a.length ∧
 b.length = b.length ∧
 IntKind.i64.wrap ((↑x_1 : Int) + 1) = (↑x_2 : Int) ∧
 a.length = a.length ∧
 validL (mkL a.length (agF a) (ctF a)) =
 validL (mkL a.length (agF a) (ctF a)) ∧
 (!validL (mkL a.length (agF a) (ctF a))) =
 !validL (mkL a.length (agF a) (ctF a)) ∧
 (!validL (mkL a.length (agF a) (ctF a))) =
 !validL (mkL a.length (agF a) (ctF a)) ∧
 false = false ∧ True) ∧
 (a.length = a.length ∧
 (∀ (j : Nat), j < a.length → agF a j = agF a j) ∧
 (∀ (j : Nat), j < a.length → ctF a j = ctF a j) ∧ True) ∧
 (b.length = b.length ∧
 (∀ (j : Nat), j < b.length → agF b j = agF b j) ∧
 (∀ (j : Nat), j < b.length → ctF b j = ctF b j) ∧ True) ∧
 True)) ∧
 (decide ((↑x_1 : Int) < (↑a.length : Int)) = false → true = rlL a b))) := by kernel_rfl
theorem v22 (a b : List Tk) (hA : a.length ≤ 1099511627776) (hB : b.length ≤ 1099511627776) : fnVc (tab [kVr, kCr] [(0, .of (lRl a b))]) Try.f22 [.sl 0 a.length, .sl 1 b.length] [clkArr a, clkArr b] (plainIs (.b (rlL a b))) := by
  rw [v22_eq]
  simp only [mkL_self, eq_self, true_and, and_true, implies_true, imp_self, hA, hB]
  refine ⟨fun hc => ?_, fun hc => ⟨⟨⟩, ⟨0, ⟨Nat.zero_le _, fun i hi => absurd hi (Nat.not_lt_zero i)⟩, rfl⟩, fun i hi => ⟨fun hl => ?_, fun hl => ?_⟩⟩⟩
  · cases e1 : validL a <;> cases e2 : validL b <;> simp [rlL, e1, e2] at hc ⊢
  · have hl : i < a.length := by simpa using hl
    refine ⟨⟨by omega, by omega⟩, hl, ⟨by omega, by omega⟩, hl, fun he => ?_, fun he => ⟨i + 1, ⟨by omega, fun i' h' => ?_⟩, mu_of (by simp only [lRl]; omega), wrS hl hA⟩⟩
    · have e : rlB a b i = false := by simp only [rlB, he, Bool.not_true]
      simp only [rlL, allN_no hl e, Bool.and_false]
    · rcases Nat.lt_or_ge i' i with h | h
      · exact hi.2 i' h
      · obtain rfl : i' = i := by omega
        simp only [rlB, he, Bool.not_false]
  · have hl : ¬ i < a.length := by simpa using hl
    obtain rfl : i = a.length := by omega
    have e1 : validL a = true := by cases e : validL a <;> simp [e] at hc ⊢
    have e2 : validL b = true := by cases e : validL b <;> simp [e] at hc ⊢
    simp only [rlL, e1, e2, allN_iff.2 hi.2, Bool.and_self]
theorem fo22 : fnOk Try.prog 22 := ⟨Try.f22, Try.func22, by kernel_rfl, by kernel_rfl⟩
theorem c22 : CallOk Try.prog [] 22 (fC2 (fun a b => L40 a ∧ L40 b) fun a b => .b (rlL a b)) := okC2 Try.func22 fo22 (fun _ _ => rfl) (fun a b => [(0, .of (lRl a b))]) (mOne c13 (mOne c29 mNil)) fun a b h => v22 a b h.1 h.2
theorem v24_eq (a b : List Tk) : (fnVc (tab [kVr, kLr] []) Try.f24 [.sl 0 a.length, .sl 1 b.length] [clkArr a, clkArr b] (plainIs (.b (rcL a b)))) = (a.length = a.length ∧
 (mkL a.length (agF a) (ctF a)).length ≤ 1099511627776 ∧
 (validL (mkL a.length (agF a) (ctF a)) = true → b.length = b.length) ∧
 (validL (mkL a.length (agF a) (ctF a)) = true → (mkL b.length (agF b) (ctF b)).length ≤ 1099511627776) ∧
 ((validL (mkL a.length (agF a) (ctF a)) && validL (mkL b.length (agF b) (ctF b))) = true →
 a.length = a.length) ∧
 ((validL (mkL a.length (agF a) (ctF a)) && validL (mkL b.length (agF b) (ctF b))) = true →
 b.length = b.length) ∧
 ((validL (mkL a.length (agF a) (ctF a)) && validL (mkL b.length (agF b) (ctF b))) = true →
 (mkL a.length (agF a) (ctF a)).length ≤ 1099511627776 ∧
 (mkL b.length (agF b) (ctF b)).length ≤ 1099511627776) ∧
 ((validL (mkL a.length (agF a) (ctF a)) && validL (mkL b.length (agF b) (ctF b)) &&
 !rlL (mkL a.length (agF a) (ctF a)) (mkL b.length (agF b) (ctF b))) =
 true →
 b.length = b.length) ∧
 ((validL (mkL a.length (agF a) (ctF a)) && validL (mkL b.length (agF b) (ctF b)) &&
 !rlL (mkL a.length (agF a) (ctF a)) (mkL b.length (agF b) (ctF b))) =
 true →
 a.length = a.length) ∧
 ((validL (mkL a.length (agF a) (ctF a)) && validL (mkL b.length (agF b) (ctF b)) &&
 !rlL (mkL a.length (agF a) (ctF a)) (mkL b.length (agF b) (ctF b))) =
 true →
 (mkL b.length (agF b) (ctF b)).length ≤ 1099511627776 ∧
 (mkL a.length (agF a) (ctF a)).length ≤ 1099511627776) ∧
 (validL (mkL a.length (agF a) (ctF a)) && validL (mkL b.length (agF b) (ctF b)) &&
 !rlL (mkL a.length (agF a) (ctF a)) (mkL b.length (agF b) (ctF b)) &&
 !rlL (mkL b.length (agF b) (ctF b)) (mkL a.length (agF a) (ctF a))) =
 rcL a b) := by kernel_rfl
theorem v24 (a b : List Tk) (hA : a.length ≤ 1099511627776) (hB : b.length ≤ 1099511627776) : fnVc (tab [kVr, kLr] []) Try.f24 [.sl 0 a.length, .sl 1 b.length] [clkArr a, clkArr b] (plainIs (.b (rcL a b))) := by
  rw [v24_eq]
  simp only [mkL_self, eq_self, true_and, and_true, implies_true, imp_self, hA, hB]
  cases e1 : validL a <;> cases e2 : validL b <;> simp [rcL, e1, e2]
theorem fo24 : fnOk Try.prog 24 := ⟨Try.f24, Try.func24, by kernel_rfl, by kernel_rfl⟩
theorem c24 : CallOk Try.prog [] 24 (fC2 (fun a b => L40 a ∧ L40 b) fun a b => .b (rcL a b)) := okC2 Try.func24 fo24 (fun _ _ => rfl) (fun _ _ => []) (mOne c13 (mOne c22 mNil)) fun a b h => v24 a b h.1 h.2
theorem agsF_len : ∀ (f : Nat) (a b : List Tk), (agsF f a b).length ≤ f := by
  intro f
  induction f with
  | zero => intro a b; cases a <;> cases b <;> simp [agsF]
  | succ f ih =>
    intro a b
    cases a with
    | nil => cases b with
      | nil => simp [agsF]
      | cons y b => have := ih [] b; simp only [agsF, List.length_cons]; omega
    | cons x a => cases b with
      | nil => have := ih a []; simp only [agsF, List.length_cons]; omega
      | cons y b =>
        have h1 := ih a (y :: b)
        have h2 := ih a b
        have h3 := ih (x :: a) b
        simp only [agsF]
        cases decide (x.ag < y.ag) <;> cases (x.ag == y.ag) <;> simp only [cond_true, cond_false, List.length_cons] <;> omega
theorem agsL_len (a b : List Tk) : (agsL a b).length ≤ a.length + b.length := agsF_len _ a b
theorem v18_eq (a b : List Tk) : (fnVc (tab [kVr, kCr, (31, rNI (agsL a b))] [(0, .of (lRj a b (agsL a b)))]) Try.f18 [.sl 0 a.length, .sl 1 b.length] [clkArr a, clkArr b] (resIs (.sl 0 (rjL a b).length) 27 (rjL a b).length (clkCols (rjL a b)))) = (a.length = a.length ∧
 (mkL a.length (agF a) (ctF a)).length ≤ 1099511627776 ∧
 ((!validL (mkL a.length (agF a) (ctF a))) = false → b.length = b.length) ∧
 ((!validL (mkL a.length (agF a) (ctF a))) = false → (mkL b.length (agF b) (ctF b)).length ≤ 1099511627776) ∧
 ((!validL (mkL a.length (agF a) (ctF a)) || !validL (mkL b.length (agF b) (ctF b))) = true →
 0 = (rjL a b).length ∧ ((rjL a b).length = 0 ∧ (rjL a b).length = 0 ∧ True) ∧ 0 = (rjL a b).length) ∧
 ((!validL (mkL a.length (agF a) (ctF a)) || !validL (mkL b.length (agF b) (ctF b))) = false →
 a.length = a.length ∧
 b.length = b.length ∧
 ((mkL a.length (agF a) (ctF a)).length ≤ 1099511627776 ∧
 (mkL b.length (agF b) (ctF b)).length ≤ 1099511627776) ∧
 agsL (mkL a.length (agF a) (ctF a)) (mkL b.length (agF b) (ctF b)) = agsL a b ∧
 ∃ (x : PUnit),
 (∃ (x : Nat),
 x ≤ (agsL a b).length ∧
 (0 = x ∧ 0 = (↑x : Int) ∧ True) ∧ (0 = x ∧ x = 0 ∧ x = 0 ∧ True) ∧ True) ∧
 ∀ (x_1 : Nat),
 x_1 ≤ (agsL a b).length →
 (decide ((↑x_1 : Int) < (↑(agsL a b).length : Int)) = true →
 (0 ≤ (↑x_1 : Int) ∧ (↑x_1 : Int) < (↑(agsL a b).length : Int)) ∧
 x_1 < (agsL a b).length ∧
 (0 ≤ (↑x_1 : Int) ∧ (↑x_1 : Int) < (↑(agsL a b).length : Int)) ∧
 x_1 < (agsL a b).length ∧
 a.length = a.length ∧
 (mkL a.length (agF a) (ctF a)).length ≤ 1099511627776 ∧
 (0 ≤ (↑x_1 : Int) ∧ (↑x_1 : Int) < (↑(agsL a b).length : Int)) ∧
 x_1 < (agsL a b).length ∧
 b.length = b.length ∧
 (mkL b.length (agF b) (ctF b)).length ≤ 1099511627776 ∧
 x_1 = x_1 ∧
 1 = 1 ∧
 0 < 1 ∧
 (x_1 + 1) * 16 ≤ 140737488355328 ∧
 x_1 + 1 ≤ 9223372036854775807 ∧
 ∃ (x_2 : Nat),
 x_2 ≤ (agsL a b).length ∧
 ((PLoop.of (lRj a b (agsL a b))).ann x).mu x_2 <
 ((PLoop.of (lRj a b (agsL a b))).ann x).mu x_1 ∧
 (a.length = a.length ∧
 b.length = b.length ∧
 0 = 0 ∧
 x_1 + 1 = x_2 ∧
 (agsL a b).length = (agsL a b).length ∧
 IntKind.i64.wrap ((↑x_1 : Int) + 1) =
 (↑x_2 : Int) ∧
 a.length = a.length ∧
 validL
 (mkL a.length (agF a)
 (ctF a)) =
 validL
 (mkL a.length (agF a)
 (ctF a)) ∧
 (!validL
 (mkL a.length (agF a)
 (ctF a))) =
 !validL
 (mkL a.length (agF a)
 (ctF a)) ∧
 (!validL
 (mkL a.length (agF a)
 (ctF a))) =
 !validL
 (mkL a.length (agF a)
 (ctF a)) ∧
 false = false ∧
 a.length = a.length ∧
 b.length = b.length ∧
 (agsL a b).length =
 (agsL a b).length ∧
 True) ∧
 (a.length = a.length ∧
 (∀ (j : Nat),
 j < a.length → agF a j = agF a j) ∧
 (∀ (j : Nat),
 j < a.length → ctF a j = ctF a j) ∧
 True) ∧
 (b.length = b.length ∧
 (∀ (j : Nat),
 j < b.length → agF b j = agF b j) ∧
 (∀ (j : Nat),
 j < b.length → ctF b j = ctF b j) ∧
 True) ∧
 (0 = 0 ∧ True ∧ True ∧ True) ∧
 (x_1 + 1 = x_2 ∧
 (∀ (j : Nat),
 j < x_2 →
 (bif j.blt x_1 then
 inF (agsL a b) j
 else
 pickI [inF (agsL a b) x_1]
 (j - x_1)) =
 inF (agsL a b) j) ∧
 (∀ (j : Nat),
 j < x_2 →
 (bif j.blt x_1 then
 rjC a b (agsL a b) j
 else
 pickI
 [if
 cntL
 (mkL b.length
 (agF b)
 (ctF b))
 (inF (agsL a b)
 x_1) >
 cntL
 (mkL a.length
 (agF a)
 (ctF a))
 (inF (agsL a b)
 x_1) then
 cntL
 (mkL b.length
 (agF b) (ctF b))
 (inF (agsL a b) x_1)
 else
 cntL
 (mkL a.length
 (agF a) (ctF a))
 (inF (agsL a b)
 x_1)]
 (j - x_1)) =
 rjC a b (agsL a b) j) ∧
 True) ∧
 ((agsL a b).length = (agsL a b).length ∧
 (∀ (j : Nat),
 j < (agsL a b).length →
 inF (agsL a b) j =
 inF (agsL a b) j) ∧
 True) ∧
 True) ∧
 (decide ((↑x_1 : Int) < (↑(agsL a b).length : Int)) = false →
 x_1 = (rjL a b).length ∧
 ((∀ (j : Nat), j < (rjL a b).length → inF (agsL a b) j = agF (rjL a b) j) ∧
 (∀ (j : Nat), j < (rjL a b).length → rjC a b (agsL a b) j = ctF (rjL a b) j) ∧
 True) ∧
 x_1 = (rjL a b).length))) := by kernel_rfl
theorem v18 (a b : List Tk) (hA : a.length ≤ 1099511627776) (hB : b.length ≤ 1099511627776) : fnVc (tab [kVr, kCr, (31, rNI (agsL a b))] [(0, .of (lRj a b (agsL a b)))]) Try.f18 [.sl 0 a.length, .sl 1 b.length] [clkArr a, clkArr b] (resIs (.sl 0 (rjL a b).length) 27 (rjL a b).length (clkCols (rjL a b))) := by
  rw [v18_eq]
  simp only [mkL_self, eq_self, true_and, and_true, implies_true, imp_self, hA, hB]
  have hL := agsL_len a b
  refine ⟨fun hc => ?_, fun hc => ⟨⟨⟩, ⟨0, Nat.zero_le _, ⟨rfl, rfl⟩, rfl, rfl, rfl⟩, fun i hi => ⟨fun hl => ?_, fun hl => ?_⟩⟩⟩
  · have e : rjL a b = [] := by cases e1 : validL a <;> cases e2 : validL b <;> simp [rjL, e1, e2] at hc ⊢
    simp [e]
  · have hl : i < (agsL a b).length := by simpa using hl
    refine ⟨⟨by omega, by omega⟩, hl, ⟨by omega, by omega⟩, hl, ⟨by omega, by omega⟩, hl, by omega, by omega, by omega, i + 1, by omega, mu_of (by simp only [lRj]; omega), ?_⟩
    simp only [true_and, and_true]
    exact ⟨wrT hl (by omega), apG rfl, apG rfl⟩
  · have hl : ¬ i < (agsL a b).length := by simpa using hl
    obtain rfl : i = (agsL a b).length := by omega
    have e : rjL a b = mkL (agsL a b).length (inF (agsL a b)) (rjC a b (agsL a b)) := by cases e1 : validL a <;> cases e2 : validL b <;> simp [rjL, e1, e2] at hc ⊢
    rw [e]
    simp only [mkL_len]
    refine ⟨trivial, ⟨fun j hj => ?_, fun j hj => ?_⟩, trivial⟩
    · simp only [agF, nth_mkL hj]
    · simp only [ctF, nth_mkL hj]
theorem fo18 : fnOk Try.prog 18 := ⟨Try.f18, Try.func18, by kernel_rfl, by kernel_rfl⟩
theorem c18 : CallOk Try.prog [] 18 (rC2 (fun a b => L40 a ∧ L40 b) rjL) := okR2' Try.func18 fo18 (fun a b => [(0, .of (lRj a b (agsL a b)))]) (fun a b => mOne c13 (mOne c29 (mOne (c31 (agsL a b)) mNil))) fun a b h => v18 a b h.1 h.2
theorem rmO_len (a b : List Tk) (L : List Int) (i : Nat) : (rmO a b L i).length ≤ i := by
  induction i with
  | zero => simp [rmO]
  | succ i ih => simp only [rmO]; cases decide (rmC a b L i > 0) <;> simp <;> omega
theorem v20_eq (a b : List Tk) : (fnVc (tab [kVr, kCr, (31, rNI (agsL a b))] [(0, .of (lRm a b (agsL a b)))]) Try.f20 [.sl 0 a.length, .sl 1 b.length] [clkArr a, clkArr b] (resIs (.sl 0 (rmL a b).length) 27 (rmL a b).length (clkCols (rmL a b)))) = (a.length = a.length ∧
 (mkL a.length (agF a) (ctF a)).length ≤ 1099511627776 ∧
 ((!validL (mkL a.length (agF a) (ctF a))) = false → b.length = b.length) ∧
 ((!validL (mkL a.length (agF a) (ctF a))) = false → (mkL b.length (agF b) (ctF b)).length ≤ 1099511627776) ∧
 ((!validL (mkL a.length (agF a) (ctF a)) || !validL (mkL b.length (agF b) (ctF b))) = true →
 0 = (rmL a b).length ∧ ((rmL a b).length = 0 ∧ (rmL a b).length = 0 ∧ True) ∧ 0 = (rmL a b).length) ∧
 ((!validL (mkL a.length (agF a) (ctF a)) || !validL (mkL b.length (agF b) (ctF b))) = false →
 a.length = a.length ∧
 b.length = b.length ∧
 ((mkL a.length (agF a) (ctF a)).length ≤ 1099511627776 ∧
 (mkL b.length (agF b) (ctF b)).length ≤ 1099511627776) ∧
 agsL (mkL a.length (agF a) (ctF a)) (mkL b.length (agF b) (ctF b)) = agsL a b ∧
 ∃ (x : PUnit),
 (∃ (x : Nat),
 (x ≤ (agsL a b).length ∧ (rmO a b (agsL a b) x).length ≤ x) ∧
 (0 = (rmO a b (agsL a b) x).length ∧ 0 = (↑x : Int) ∧ True) ∧
 (0 = (rmO a b (agsL a b) x).length ∧
 (rmO a b (agsL a b) x).length = 0 ∧ (rmO a b (agsL a b) x).length = 0 ∧ True) ∧
 True) ∧
 ∀ (x_1 : Nat),
 x_1 ≤ (agsL a b).length ∧ (rmO a b (agsL a b) x_1).length ≤ x_1 →
 (decide ((↑x_1 : Int) < (↑(agsL a b).length : Int)) = true →
 (0 ≤ (↑x_1 : Int) ∧ (↑x_1 : Int) < (↑(agsL a b).length : Int)) ∧
 x_1 < (agsL a b).length ∧
 a.length = a.length ∧
 (mkL a.length (agF a) (ctF a)).length ≤ 1099511627776 ∧
 (0 ≤ (↑x_1 : Int) ∧ (↑x_1 : Int) < (↑(agsL a b).length : Int)) ∧
 x_1 < (agsL a b).length ∧
 b.length = b.length ∧
 (mkL b.length (agF b) (ctF b)).length ≤ 1099511627776 ∧
 (decide
 ((if
 cntL (mkL b.length (agF b) (ctF b)) (inF (agsL a b) x_1) <
 cntL (mkL a.length (agF a) (ctF a))
 (inF (agsL a b) x_1) then
 cntL (mkL b.length (agF b) (ctF b)) (inF (agsL a b) x_1)
 else
 cntL (mkL a.length (agF a) (ctF a)) (inF (agsL a b) x_1)) >
 0) =
 true →
 (0 ≤ (↑x_1 : Int) ∧ (↑x_1 : Int) < (↑(agsL a b).length : Int)) ∧
 x_1 < (agsL a b).length ∧
 (rmO a b (agsL a b) x_1).length =
 (rmO a b (agsL a b) x_1).length ∧
 1 = 1 ∧
 0 < 1 ∧
 ((rmO a b (agsL a b) x_1).length + 1) * 16 ≤
 140737488355328 ∧
 (rmO a b (agsL a b) x_1).length + 1 ≤
 9223372036854775807 ∧
 ∃ (x_2 : Nat),
 (x_2 ≤ (agsL a b).length ∧
 (rmO a b (agsL a b) x_2).length ≤ x_2) ∧
 ((PLoop.of (lRm a b (agsL a b))).ann x).mu x_2 <
 ((PLoop.of (lRm a b (agsL a b))).ann x).mu
 x_1 ∧
 (a.length = a.length ∧
 b.length = b.length ∧
 0 = 0 ∧
 (rmO a b (agsL a b) x_1).length + 1 =
 (rmO a b (agsL a b) x_2).length ∧
 (agsL a b).length =
 (agsL a b).length ∧
 IntKind.i64.wrap
 ((↑x_1 : Int) + 1) =
 (↑x_2 : Int) ∧
 a.length = a.length ∧
 validL
 (mkL a.length (agF a)
 (ctF a)) =
 validL
 (mkL a.length (agF a)
 (ctF a)) ∧
 (!validL
 (mkL a.length (agF a)
 (ctF a))) =
 !validL
 (mkL a.length (agF a)
 (ctF a)) ∧
 (!validL
 (mkL a.length
 (agF a)
 (ctF a))) =
 !validL
 (mkL a.length
 (agF a) (ctF a)) ∧
 false = false ∧
 a.length = a.length ∧
 b.length = b.length ∧
 (agsL a b).length =
 (agsL a
 b).length ∧
 True) ∧
 (a.length = a.length ∧
 (∀ (j : Nat),
 j < a.length → agF a j = agF a j) ∧
 (∀ (j : Nat),
 j < a.length → ctF a j = ctF a j) ∧
 True) ∧
 (b.length = b.length ∧
 (∀ (j : Nat),
 j < b.length → agF b j = agF b j) ∧
 (∀ (j : Nat),
 j < b.length →
 ctF b j = ctF b j) ∧
 True) ∧
 (0 = 0 ∧ True ∧ True ∧ True) ∧
 ((rmO a b (agsL a b) x_1).length + 1 =
 (rmO a b (agsL a b) x_2).length ∧
 (∀ (j : Nat),
 j <
 (rmO a b (agsL a b)
 x_2).length →
 (bif
 j.blt
 (rmO a b (agsL a b)
 x_1).length then
 agF
 (rmO a b (agsL a b) x_1)
 j
 else
 pickI [inF (agsL a b) x_1]
 (j -
 (rmO a b (agsL a b)
 x_1).length)) =
 agF (rmO a b (agsL a b) x_2)
 j) ∧
 (∀ (j : Nat),
 j <
 (rmO a b (agsL a b)
 x_2).length →
 (bif
 j.blt
 (rmO a b (agsL a b)
 x_1).length then
 ctF
 (rmO a b (agsL a b)
 x_1)
 j
 else
 pickI
 [if
 cntL
 (mkL
 b.length
 (agF b)
 (ctF b))
 (inF
 (agsL a b)
 x_1) <
 cntL
 (mkL
 a.length
 (agF a)
 (ctF a))
 (inF
 (agsL a b)
 x_1) then
 cntL
 (mkL b.length
 (agF b)
 (ctF b))
 (inF (agsL a b)
 x_1)
 else
 cntL
 (mkL a.length
 (agF a)
 (ctF a))
 (inF (agsL a b)
 x_1)]
 (j -
 (rmO a b (agsL a b)
 x_1).length)) =
 ctF
 (rmO a b (agsL a b) x_2)
 j) ∧
 True) ∧
 ((agsL a b).length =
 (agsL a b).length ∧
 (∀ (j : Nat),
 j < (agsL a b).length →
 inF (agsL a b) j =
 inF (agsL a b) j) ∧
 True) ∧
 True) ∧
 (decide
 ((if
 cntL (mkL b.length (agF b) (ctF b)) (inF (agsL a b) x_1) <
 cntL (mkL a.length (agF a) (ctF a))
 (inF (agsL a b) x_1) then
 cntL (mkL b.length (agF b) (ctF b)) (inF (agsL a b) x_1)
 else
 cntL (mkL a.length (agF a) (ctF a)) (inF (agsL a b) x_1)) >
 0) =
 false →
 ∃ (x_2 : Nat),
 (x_2 ≤ (agsL a b).length ∧
 (rmO a b (agsL a b) x_2).length ≤ x_2) ∧
 ((PLoop.of (lRm a b (agsL a b))).ann x).mu x_2 <
 ((PLoop.of (lRm a b (agsL a b))).ann x).mu x_1 ∧
 (a.length = a.length ∧
 b.length = b.length ∧
 0 = 0 ∧
 (rmO a b (agsL a b) x_1).length =
 (rmO a b (agsL a b) x_2).length ∧
 (agsL a b).length = (agsL a b).length ∧
 IntKind.i64.wrap ((↑x_1 : Int) + 1) =
 (↑x_2 : Int) ∧
 a.length = a.length ∧
 validL (mkL a.length (agF a) (ctF a)) =
 validL (mkL a.length (agF a) (ctF a)) ∧
 (!validL (mkL a.length (agF a) (ctF a))) =
 !validL (mkL a.length (agF a) (ctF a)) ∧
 (!validL (mkL a.length (agF a) (ctF a))) =
 !validL
 (mkL a.length (agF a) (ctF a)) ∧
 false = false ∧
 a.length = a.length ∧
 b.length = b.length ∧
 (agsL a b).length =
 (agsL a b).length ∧
 True) ∧
 (a.length = a.length ∧
 (∀ (j : Nat), j < a.length → agF a j = agF a j) ∧
 (∀ (j : Nat), j < a.length → ctF a j = ctF a j) ∧
 True) ∧
 (b.length = b.length ∧
 (∀ (j : Nat), j < b.length → agF b j = agF b j) ∧
 (∀ (j : Nat), j < b.length → ctF b j = ctF b j) ∧
 True) ∧
 (0 = 0 ∧ True ∧ True ∧ True) ∧
 ((rmO a b (agsL a b) x_1).length =
 (rmO a b (agsL a b) x_2).length ∧
 (∀ (j : Nat),
 j < (rmO a b (agsL a b) x_2).length →
 agF (rmO a b (agsL a b) x_1) j =
 agF (rmO a b (agsL a b) x_2) j) ∧
 (∀ (j : Nat),
 j < (rmO a b (agsL a b) x_2).length →
 ctF (rmO a b (agsL a b) x_1) j =
 ctF (rmO a b (agsL a b) x_2) j) ∧
 True) ∧
 ((agsL a b).length = (agsL a b).length ∧
 (∀ (j : Nat),
 j < (agsL a b).length →
 inF (agsL a b) j = inF (agsL a b) j) ∧
 True) ∧
 True)) ∧
 (decide ((↑x_1 : Int) < (↑(agsL a b).length : Int)) = false →
 (rmO a b (agsL a b) x_1).length = (rmL a b).length ∧
 ((∀ (j : Nat),
 j < (rmL a b).length → agF (rmO a b (agsL a b) x_1) j = agF (rmL a b) j) ∧
 (∀ (j : Nat),
 j < (rmL a b).length → ctF (rmO a b (agsL a b) x_1) j = ctF (rmL a b) j) ∧
 True) ∧
 (rmO a b (agsL a b) x_1).length = (rmL a b).length))) := by kernel_rfl
theorem v20 (a b : List Tk) (hA : a.length ≤ 1099511627776) (hB : b.length ≤ 1099511627776) : fnVc (tab [kVr, kCr, (31, rNI (agsL a b))] [(0, .of (lRm a b (agsL a b)))]) Try.f20 [.sl 0 a.length, .sl 1 b.length] [clkArr a, clkArr b] (resIs (.sl 0 (rmL a b).length) 27 (rmL a b).length (clkCols (rmL a b))) := by
  rw [v20_eq]
  simp only [mkL_self, eq_self, true_and, and_true, implies_true, imp_self, hA, hB]
  have hL := agsL_len a b
  refine ⟨fun hc => ?_, fun hc => ⟨⟨⟩, ⟨0, ⟨Nat.zero_le _, Nat.le_refl 0⟩, ⟨rfl, rfl⟩, rfl, rfl, rfl⟩, fun i hi => ⟨fun hl => ?_, fun hl => ?_⟩⟩⟩
  · have e : rmL a b = [] := by cases e1 : validL a <;> cases e2 : validL b <;> simp [rmL, e1, e2] at hc ⊢
    simp [e]
  · have hl : i < (agsL a b).length := by simpa using hl
    have hb := hi.2
    refine ⟨⟨by omega, by omega⟩, hl, ⟨by omega, by omega⟩, hl, fun he => ?_, fun he => ?_⟩
    · have he : decide (rmC a b (agsL a b) i > 0) = true := he
      have e : rmO a b (agsL a b) (i + 1) = rmO a b (agsL a b) i ++ [⟨inF (agsL a b) i, rmC a b (agsL a b) i⟩] := by simp only [rmO, he, cond_true]
      have a1 := apA (rmO a b (agsL a b) i) ⟨inF (agsL a b) i, rmC a b (agsL a b) i⟩
      have a2 := apC (rmO a b (agsL a b) i) ⟨inF (agsL a b) i, rmC a b (agsL a b) i⟩
      rw [← e] at a1 a2
      have e3 : (rmO a b (agsL a b) (i + 1)).length = (rmO a b (agsL a b) i).length + 1 := by rw [e]; simp
      refine ⟨⟨by omega, by omega⟩, hl, by omega, by omega, by omega, i + 1, ⟨by omega, by omega⟩, mu_of (by simp only [lRm]; omega), ?_⟩
      simp only [e3, true_and, and_true]
      rw [e3] at a1 a2
      exact ⟨wrT hl (by omega), a1, a2⟩
    · have he : decide (rmC a b (agsL a b) i > 0) = false := he
      have e : rmO a b (agsL a b) (i + 1) = rmO a b (agsL a b) i := by simp only [rmO, he, cond_false]
      refine ⟨i + 1, ⟨by omega, by rw [e]; omega⟩, mu_of (by simp only [lRm]; omega), ?_⟩
      simp only [e, true_and, and_true, implies_true]
      exact wrT hl (by omega)
  · have hl : ¬ i < (agsL a b).length := by simpa using hl
    obtain rfl : i = (agsL a b).length := by omega
    have e : rmL a b = rmO a b (agsL a b) (agsL a b).length := by cases e1 : validL a <;> cases e2 : validL b <;> simp [rmL, e1, e2] at hc ⊢
    rw [e]
    simp
theorem fo20 : fnOk Try.prog 20 := ⟨Try.f20, Try.func20, by kernel_rfl, by kernel_rfl⟩
theorem c20 : CallOk Try.prog [] 20 (rC2 (fun a b => L40 a ∧ L40 b) rmL) := okR2' Try.func20 fo20 (fun a b => [(0, .of (lRm a b (agsL a b)))]) (fun a b => mOne c13 (mOne c29 (mOne (c31 (agsL a b)) mNil))) fun a b h => v20 a b h.1 h.2
theorem v16_eq (l : List Tk) (a : Int) : (fnVc (tab [kVr, kCr, (31, rNI (agsL l (oneT a)))] [(0, .of (lRa l a (agsL l (oneT a))))]) Try.f16 [.sl 0 l.length, .i .i64 a] [clkArr l] (resIs (.sl 0 (raL l a).length) 27 (raL l a).length (clkCols (raL l a)))) = (l.length = l.length ∧
 (mkL l.length (agF l) (ctF l)).length ≤ (1099511627776 : Nat) ∧
 ((!validL (mkL l.length (agF l) (ctF l))) = false → l.length = l.length) ∧
 ((!validL (mkL l.length (agF l) (ctF l))) = false →
 (mkL l.length (agF l) (ctF l)).length ≤ (1099511627776 : Nat)) ∧
 ((!validL (mkL l.length (agF l) (ctF l)) || cntL (mkL l.length (agF l) (ctF l)) a == (2147483647 : Int)) =
 true →
 (0 : Nat) = (raL l a).length ∧
 ((raL l a).length = (0 : Nat) ∧ (raL l a).length = (0 : Nat) ∧ True) ∧ (0 : Nat) = (raL l a).length) ∧
 ((!validL (mkL l.length (agF l) (ctF l)) || cntL (mkL l.length (agF l) (ctF l)) a == (2147483647 : Int)) =
 false →
 l.length = l.length ∧
 (1 : Nat) = (1 : Nat) ∧
 ((mkL l.length (agF l) (ctF l)).length ≤ (1099511627776 : Nat) ∧
 (mkL (1 : Nat) (pickI [a]) (pickI [(1 : Int)])).length ≤ (1099511627776 : Nat)) ∧
 agsL (mkL l.length (agF l) (ctF l)) (mkL (1 : Nat) (pickI [a]) (pickI [(1 : Int)])) =
 agsL l (oneT a) ∧
 ∃ (x : PUnit),
 (∃ (x : Nat),
 x ≤ (agsL l (oneT a)).length ∧
 ((0 : Nat) = x ∧ (0 : Int) = (↑x : Int) ∧ True) ∧
 ((0 : Nat) = x ∧ x = (0 : Nat) ∧ x = (0 : Nat) ∧ True) ∧ True) ∧
 ∀ (x_1 : Nat),
 x_1 ≤ (agsL l (oneT a)).length →
 (decide ((↑x_1 : Int) < (↑(agsL l (oneT a)).length : Int)) = true →
 ((0 : Int) ≤ (↑x_1 : Int) ∧ (↑x_1 : Int) < (↑(agsL l (oneT a)).length : Int)) ∧
 x_1 < (agsL l (oneT a)).length ∧
 l.length = l.length ∧
 (mkL l.length (agF l) (ctF l)).length ≤ (1099511627776 : Nat) ∧
 ((0 : Int) ≤ (↑x_1 : Int) ∧ (↑x_1 : Int) < (↑(agsL l (oneT a)).length : Int)) ∧
 x_1 < (agsL l (oneT a)).length ∧
 ((inF (agsL l (oneT a)) x_1 == a) = true →
 ((0 : Int) ≤ (↑x_1 : Int) ∧
 (↑x_1 : Int) < (↑(agsL l (oneT a)).length : Int)) ∧
 x_1 < (agsL l (oneT a)).length ∧
 x_1 = x_1 ∧
 (1 : Nat) = (1 : Nat) ∧
 (0 : Nat) < (1 : Nat) ∧
 (x_1 + (1 : Nat)) * (16 : Nat) ≤ (140737488355328 : Nat) ∧
 x_1 + (1 : Nat) ≤ (9223372036854775807 : Nat) ∧
 ∃ (x_2 : Nat),
 x_2 ≤ (agsL l (oneT a)).length ∧
 ((PLoop.of (lRa l a (agsL l (oneT a)))).ann x).mu
 x_2 <
 ((PLoop.of (lRa l a (agsL l (oneT a)))).ann x).mu
 x_1 ∧
 (l.length = l.length ∧
 a = a ∧
 (0 : Nat) = (0 : Nat) ∧
 x_1 + (1 : Nat) = x_2 ∧
 (agsL l (oneT a)).length =
 (agsL l (oneT a)).length ∧
 IntKind.i64.wrap
 ((↑x_1 : Int) + (1 : Int)) =
 (↑x_2 : Int) ∧
 l.length = l.length ∧
 validL
 (mkL l.length (agF l)
 (ctF l)) =
 validL
 (mkL l.length (agF l)
 (ctF l)) ∧
 (!validL
 (mkL l.length (agF l)
 (ctF l))) =
 !validL
 (mkL l.length (agF l)
 (ctF l)) ∧
 (!validL
 (mkL l.length (agF l)
 (ctF l))) =
 !validL
 (mkL l.length (agF l)
 (ctF l)) ∧
 false = false ∧
 l.length = l.length ∧
 a = a ∧
 (a = a ∧
 (1 : Int) =
 (1 : Int)) ∧
 (1 : Nat) =
 (1 : Nat) ∧
 (agsL l
 (oneT
 a)).length =
 (agsL l
 (oneT
 a)).length ∧
 True) ∧
 (l.length = l.length ∧
 (∀ (j : Nat),
 j < l.length → agF l j = agF l j) ∧
 (∀ (j : Nat),
 j < l.length → ctF l j = ctF l j) ∧
 True) ∧
 ((0 : Nat) = (0 : Nat) ∧ True ∧ True ∧ True) ∧
 (x_1 + (1 : Nat) = x_2 ∧
 (∀ (j : Nat),
 j < x_2 →
 (bif j.blt x_1 then
 inF (agsL l (oneT a)) j
 else
 pickI
 [inF (agsL l (oneT a)) x_1]
 (j - x_1)) =
 inF (agsL l (oneT a)) j) ∧
 (∀ (j : Nat),
 j < x_2 →
 (bif j.blt x_1 then
 raC l a (agsL l (oneT a)) j
 else
 pickI
 [IntKind.i64.wrap
 (cntL
 (mkL l.length
 (agF l) (ctF l))
 (inF
 (agsL l (oneT a))
 x_1) +
 (1 : Int))]
 (j - x_1)) =
 raC l a (agsL l (oneT a)) j) ∧
 True) ∧
 ((1 : Nat) = (1 : Nat) ∧
 (∀ (j : Nat),
 j < (1 : Nat) →
 pickI [a] j = pickI [a] j) ∧
 (∀ (j : Nat),
 j < (1 : Nat) →
 pickI [(1 : Int)] j =
 pickI [(1 : Int)] j) ∧
 True) ∧
 ((agsL l (oneT a)).length =
 (agsL l (oneT a)).length ∧
 (∀ (j : Nat),
 j < (agsL l (oneT a)).length →
 inF (agsL l (oneT a)) j =
 inF (agsL l (oneT a)) j) ∧
 True) ∧
 True) ∧
 ((inF (agsL l (oneT a)) x_1 == a) = false →
 ((0 : Int) ≤ (↑x_1 : Int) ∧
 (↑x_1 : Int) < (↑(agsL l (oneT a)).length : Int)) ∧
 x_1 < (agsL l (oneT a)).length ∧
 x_1 = x_1 ∧
 (1 : Nat) = (1 : Nat) ∧
 (0 : Nat) < (1 : Nat) ∧
 (x_1 + (1 : Nat)) * (16 : Nat) ≤ (140737488355328 : Nat) ∧
 x_1 + (1 : Nat) ≤ (9223372036854775807 : Nat) ∧
 ∃ (x_2 : Nat),
 x_2 ≤ (agsL l (oneT a)).length ∧
 ((PLoop.of (lRa l a (agsL l (oneT a)))).ann x).mu
 x_2 <
 ((PLoop.of (lRa l a (agsL l (oneT a)))).ann x).mu
 x_1 ∧
 (l.length = l.length ∧
 a = a ∧
 (0 : Nat) = (0 : Nat) ∧
 x_1 + (1 : Nat) = x_2 ∧
 (agsL l (oneT a)).length =
 (agsL l (oneT a)).length ∧
 IntKind.i64.wrap
 ((↑x_1 : Int) + (1 : Int)) =
 (↑x_2 : Int) ∧
 l.length = l.length ∧
 validL
 (mkL l.length (agF l)
 (ctF l)) =
 validL
 (mkL l.length (agF l)
 (ctF l)) ∧
 (!validL
 (mkL l.length (agF l)
 (ctF l))) =
 !validL
 (mkL l.length (agF l)
 (ctF l)) ∧
 (!validL
 (mkL l.length (agF l)
 (ctF l))) =
 !validL
 (mkL l.length (agF l)
 (ctF l)) ∧
 false = false ∧
 l.length = l.length ∧
 a = a ∧
 (a = a ∧
 (1 : Int) =
 (1 : Int)) ∧
 (1 : Nat) =
 (1 : Nat) ∧
 (agsL l
 (oneT
 a)).length =
 (agsL l
 (oneT
 a)).length ∧
 True) ∧
 (l.length = l.length ∧
 (∀ (j : Nat),
 j < l.length → agF l j = agF l j) ∧
 (∀ (j : Nat),
 j < l.length → ctF l j = ctF l j) ∧
 True) ∧
 ((0 : Nat) = (0 : Nat) ∧ True ∧ True ∧ True) ∧
 (x_1 + (1 : Nat) = x_2 ∧
 (∀ (j : Nat),
 j < x_2 →
 (bif j.blt x_1 then
 inF (agsL l (oneT a)) j
 else
 pickI
 [inF (agsL l (oneT a)) x_1]
 (j - x_1)) =
 inF (agsL l (oneT a)) j) ∧
 (∀ (j : Nat),
 j < x_2 →
 (bif j.blt x_1 then
 raC l a (agsL l (oneT a)) j
 else
 pickI
 [cntL
 (mkL l.length (agF l)
 (ctF l))
 (inF (agsL l (oneT a))
 x_1)]
 (j - x_1)) =
 raC l a (agsL l (oneT a)) j) ∧
 True) ∧
 ((1 : Nat) = (1 : Nat) ∧
 (∀ (j : Nat),
 j < (1 : Nat) →
 pickI [a] j = pickI [a] j) ∧
 (∀ (j : Nat),
 j < (1 : Nat) →
 pickI [(1 : Int)] j =
 pickI [(1 : Int)] j) ∧
 True) ∧
 ((agsL l (oneT a)).length =
 (agsL l (oneT a)).length ∧
 (∀ (j : Nat),
 j < (agsL l (oneT a)).length →
 inF (agsL l (oneT a)) j =
 inF (agsL l (oneT a)) j) ∧
 True) ∧
 True)) ∧
 (decide ((↑x_1 : Int) < (↑(agsL l (oneT a)).length : Int)) = false →
 x_1 = (raL l a).length ∧
 ((∀ (j : Nat), j < (raL l a).length → inF (agsL l (oneT a)) j = agF (raL l a) j) ∧
 (∀ (j : Nat),
 j < (raL l a).length → raC l a (agsL l (oneT a)) j = ctF (raL l a) j) ∧
 True) ∧
 x_1 = (raL l a).length))) := by kernel_rfl
theorem v16 (l : List Tk) (a : Int) (hA : l.length ≤ 1099511627776) : fnVc (tab [kVr, kCr, (31, rNI (agsL l (oneT a)))] [(0, .of (lRa l a (agsL l (oneT a))))]) Try.f16 [.sl 0 l.length, .i .i64 a] [clkArr l] (resIs (.sl 0 (raL l a).length) 27 (raL l a).length (clkCols (raL l a))) := by
  rw [v16_eq]
  have e0 : mkL 1 (pickI [a]) (pickI [1]) = oneT a := rfl
  have hB : (1 : Nat) ≤ 1099511627776 := by omega
  have hL := agsL_len l (oneT a)
  have h1 : (oneT a).length = 1 := rfl
  simp only [h1] at hL
  simp only [L40, e0, h1, mkL_self, eq_self, true_and, and_true, implies_true, imp_self, hA, hB]
  refine ⟨fun hc => ?_, fun hc => ⟨⟨⟩, ⟨0, Nat.zero_le _, ⟨rfl, rfl⟩, rfl, rfl, rfl⟩, fun i hi => ⟨fun hl => ?_, fun hl => ?_⟩⟩⟩
  · have e : raL l a = [] := by cases e1 : validL l <;> cases e2 : (cntL l a == 2147483647) <;> simp [raL, e1, e2] at hc ⊢
    simp [e]
  · have hl : i < (agsL l (oneT a)).length := by simpa using hl
    refine ⟨⟨by omega, by omega⟩, hl, ⟨by omega, by omega⟩, hl, fun he => ?_, fun he => ?_⟩
    · refine ⟨⟨by omega, by omega⟩, hl, by omega, by omega, by omega, i + 1, by omega, mu_of (by simp only [lRa]; omega), ⟨rfl, wrT hl (by omega)⟩, rfl, apG rfl, apG ?_⟩
      simp only [raC, he, cond_true]
      rfl
    · refine ⟨⟨by omega, by omega⟩, hl, by omega, by omega, by omega, i + 1, by omega, mu_of (by simp only [lRa]; omega), ⟨rfl, wrT hl (by omega)⟩, rfl, apG rfl, apG ?_⟩
      simp only [raC, he, cond_false]
  · have hl : ¬ i < (agsL l (oneT a)).length := by simpa using hl
    obtain rfl : i = (agsL l (oneT a)).length := by omega
    have e : raL l a = mkL (agsL l (oneT a)).length (inF (agsL l (oneT a))) (raC l a (agsL l (oneT a))) := by cases e1 : validL l <;> cases e2 : (cntL l a == 2147483647) <;> simp [raL, e1, e2] at hc ⊢
    rw [e]
    simp only [mkL_len]
    refine ⟨trivial, ⟨fun j hj => ?_, fun j hj => ?_⟩, trivial⟩
    · simp only [agF, nth_mkL hj]
    · simp only [ctF, nth_mkL hj]
theorem fo16 : fnOk Try.prog 16 := ⟨Try.f16, Try.func16, by kernel_rfl, by kernel_rfl⟩
theorem c16 : CallOk Try.prog [] 16 (rC1i (fun l _ => L40 l) raL) := okR1i' Try.func16 fo16 (fun l a => [(0, .of (lRa l a (agsL l (oneT a))))]) (fun l a => mOne c13 (mOne c29 (mOne (c31 (agsL l (oneT a))) mNil))) fun l a h => v16 l a h
end Go.Proofs.Ythdmdlipifpbhaa
