/-
  A part of the proof (Cl5).
-/
import Derived.Test.YthdmdlipifpbhaaClNam
import Derived.Test.YthdmdlipifpbhaaClLaw1
namespace Go.Proofs.Ythdmdlipifpbhaa
open Go Go.Proofs.Ythdmdlipifpbhaa.Sx
set_option maxRecDepth 100000
set_option linter.unusedSimpArgs false
set_option linter.unusedVariables false

theorem stL_len (ag fr : List Int) : ∀ n, (stL ag fr n).length = n := by
  intro n
  induction n with
  | zero => rfl
  | succ n ih => simp [stL, ih]
theorem last_lt {ag : List Int} : ∀ {n : Nat} {x k : Int}, lastF ag n x = some k → 0 ≤ k ∧ k < (n : Int) := by
  intro n
  induction n with
  | zero => intro x k h; cases h
  | succ n ih =>
    intro x k h
    simp only [lastF] at h
    cases e : (x == inF ag n)
    · rw [e, cond_false] at h
      have := ih h
      omega
    · rw [e, cond_true] at h
      simp only [Option.some.injEq] at h
      omega
theorem isS_some {o : Option Int} (h : isS o = true) : o = some (val0 o) := by cases o <;> simp [isS, val0] at *
/-- A clock of at most n events. -/
structure Good (ag : List Int) (n : Nat) (c : List Tk) : Prop where
  vd : Vd c
  ct : ∀ z, cntL c z ≤ n
  sub : ∀ t ∈ c, ∃ i, i < n ∧ inF ag i = t.ag
theorem Vd.nodup : ∀ {l : List Tk}, Vd l → (l.map Tk.ag).Nodup := by
  intro l
  induction l with
  | nil => intro _; simp
  | cons x r ih =>
    intro h
    simp only [List.map_cons, List.nodup_cons, List.mem_map, not_exists, not_and]
    exact ⟨fun t ht e => by have := h.2.1 t ht; omega, ih h.tail⟩
theorem Good.len {ag : List Int} {n : Nat} {c : List Tk} (h : Good ag n c) : c.length ≤ n := by
  have := List.Nodup.length_le_of_subset (l₁ := c.map Tk.ag) (l₂ := (List.range n).map (inF ag)) h.vd.nodup (fun z hz => by
    obtain ⟨t, ht, rfl⟩ := List.mem_map.1 hz
    obtain ⟨i, hi, e⟩ := h.sub t ht
    exact List.mem_map.2 ⟨i, List.mem_range.2 hi, e⟩)
  simpa using this
theorem Good.mono {ag : List Int} {n m : Nat} {c : List Tk} (h : Good ag n c) (hm : n ≤ m) : Good ag m c := ⟨h.vd, fun z => Int.le_trans (h.ct z) (by omega), fun t ht => by obtain ⟨i, hi, e⟩ := h.sub t ht; exact ⟨i, by omega, e⟩⟩
theorem good_nil (ag : List Int) (n : Nat) : Good ag n [] := ⟨trivial, fun z => by simp [cntL], fun t ht => by cases ht⟩
theorem good_join {ag : List Int} {n : Nat} {a b : List Tk} (ha : Good ag n a) (hb : Good ag n b) : Good ag n (joinL a b) := by
  obtain ⟨h1, h2⟩ := joinL_spec ha.vd hb.vd
  refine ⟨h1, fun z => by rw [h2]; have := ha.ct z; have := hb.ct z; omega, fun t ht => ?_⟩
  have hp : 0 < cntL (joinL a b) t.ag := (cnt_pos h1).2 ⟨t, ht, rfl⟩
  rw [h2] at hp
  by_cases e : 0 < cntL a t.ag
  · obtain ⟨u, hu, eu⟩ := (cnt_pos ha.vd).1 e
    rw [← eu]; exact ha.sub u hu
  · obtain ⟨u, hu, eu⟩ := (cnt_pos hb.vd).1 (by omega : 0 < cntL b t.ag)
    rw [← eu]; exact hb.sub u hu
theorem good_adv {ag : List Int} {n : Nat} {a : List Tk} (ha : Good ag n a) (hn : n ≤ 1099511627776) : Good ag (n + 1) (advL a (inF ag n)) := by
  rw [advL_eq]
  have hm : ∀ t ∈ a, t.ct < 9223372036854775807 := fun t ht => by
    have := ha.ct t.ag
    rw [cnt_mem ha.vd ht] at this
    omega
  obtain ⟨h1, h2, _⟩ := advR_spec (a := inF ag n) ha.vd hm
  refine ⟨h1, fun z => ?_, fun t ht => ?_⟩
  · rw [h2]
    have := ha.ct z
    have := ha.ct (inF ag n)
    split <;> omega
  · have hp : 0 < cntL (advR a (inF ag n)) t.ag := (cnt_pos h1).2 ⟨t, ht, rfl⟩
    rw [h2] at hp
    by_cases e : t.ag = inF ag n
    · exact ⟨n, by omega, e.symm⟩
    · rw [if_neg e] at hp
      obtain ⟨u, hu, eu⟩ := (cnt_pos ha.vd).1 hp
      obtain ⟨i, hi, e'⟩ := ha.sub u hu
      exact ⟨i, by omega, by rw [e', eu]⟩
theorem st_good {ag fr : List Int} (hfr : ∀ i, i < fr.length → okFr fr i = true) : ∀ n, n ≤ fr.length → n ≤ 1099511627776 → (∀ j, j < n → Good ag n (nthC (stL ag fr n) j)) ∧ (n < fr.length → Good ag n (nxtC ag fr n)) := by
  intro n
  induction n with
  | zero =>
    intro _ _
    refine ⟨fun j hj => by omega, fun h => ?_⟩
    have hb := hfr 0 h
    have hb : ¬ (inF fr 0 ≥ 0) := by
      simp only [okFr, Bool.not_eq_true', Bool.or_eq_false_iff, decide_eq_false_iff_not] at hb
      omega
    have e1 : decide (inF fr 0 ≥ 0) = false := by simpa using hb
    unfold nxtC nextC baseC
    rw [e1, cond_false]
    exact good_nil ag 0
  | succ n ih =>
    intro hn hm
    obtain ⟨h1, h2⟩ := ih (by omega) (by omega)
    have hnew : Good ag (n + 1) (advL (nextC ag fr (stL ag fr n) n) (inF ag n)) := good_adv (h2 (by omega)) (by omega)
    have hall : ∀ j, j < n + 1 → Good ag (n + 1) (nthC (stL ag fr (n + 1)) j) := fun j hj => by
      simp only [stL]
      by_cases e : j = n
      · subst e
        have := nthC_at (l := stL ag fr j) (x := advL (nextC ag fr (stL ag fr j) j) (inF ag j))
        rw [stL_len] at this
        rw [this]
        exact hnew
      · rw [nthC_lt (by rw [stL_len]; omega)]
        exact (h1 j (by omega)).mono (by omega)
    refine ⟨hall, fun h => ?_⟩
    have hbase : Good ag (n + 1) (baseC ag (stL ag fr (n + 1)) (n + 1)) := by
      unfold baseC
      cases e : isS (lastF ag (n + 1) (inF ag (n + 1)))
      · exact good_nil ag _
      · have := last_lt (isS_some e)
        exact hall _ (by omega)
    have hb := hfr (n + 1) h
    simp only [okFr, Bool.not_eq_true', Bool.or_eq_false_iff, decide_eq_false_iff_not] at hb
    unfold nxtC nextC
    cases e : decide (inF fr (n + 1) ≥ 0)
    · exact hbase
    · have e : inF fr (n + 1) ≥ 0 := by simpa using e
      exact good_join hbase (hall _ (by omega))
theorem rows_eq {L : List (List Tk)} {c : List Tk} {n : Nat} (hn : L.length = n) (F : Tk → Int) :
    (∀ j, j < (L ++ [c]).length → (bif Nat.blt j n then (nthC L j).length else c.length) = (nthC (L ++ [c]) j).length) ∧ ∀ (G : List Tk → Nat → Int) j, j < (L ++ [c]).length → ∀ i, i < (nthC (L ++ [c]) j).length → (bif Nat.blt j n then G (nthC L j) else G c) i = G (nthC (L ++ [c]) j) i := by
  subst hn
  have key : ∀ j, j < (L ++ [c]).length → nthC (L ++ [c]) j = bif Nat.blt j L.length then nthC L j else c := fun j hj => by
    by_cases h : j < L.length
    · have hb : Nat.blt j L.length = true := by rw [Nat.blt_eq]; exact h
      rw [hb, cond_true, nthC_lt h]
    · have hb : Nat.blt j L.length = false := Bool.eq_false_iff.2 fun e => h (by rw [Nat.blt_eq] at e; exact e)
      have : j = L.length := by simp at hj; omega
      subst this
      rw [hb, cond_false, nthC_at]
  refine ⟨fun j hj => ?_, fun G j hj i _ => ?_⟩
  · rw [key j hj]; cases Nat.blt j L.length <;> rfl
  · rw [key j hj]; cases Nat.blt j L.length <;> rfl
theorem v25_eq (ag fr : List Int) : (fnVc (tab (cSt ag fr) [(0, .of (lFr fr 25)), (2, .of (lSt ag fr))]) Try.f25 [.sl 0 ag.length, .sl 1 fr.length] [intArr ag, intArr fr] (resIs (.tup [.sl 0 (stampsR ag fr).1.length, .i .i64 (stampsR ag fr).2]) 23 (stampsR ag fr).1.length (rowsC (stampsR ag fr).1))) = ((((↑ag.length : Int) != (↑fr.length : Int)) = true →
 0 = (stampsR ag fr).fst.length ∧
 ((stampsR ag fr).fst.length = 0 ∧ True) ∧ 0 = (stampsR ag fr).fst.length ∧ 1 = (stampsR ag fr).snd ∧ True) ∧
 (((↑ag.length : Int) != (↑fr.length : Int)) = false →
 (decide ((↑ag.length : Int) > 512) = true →
 0 = (stampsR ag fr).fst.length ∧
 ((stampsR ag fr).fst.length = 0 ∧ True) ∧ 0 = (stampsR ag fr).fst.length ∧ 4 = (stampsR ag fr).snd ∧ True) ∧
 (decide ((↑ag.length : Int) > 512) = false →
 ∃ (x : PUnit),
 (∃ (x : Nat), (x ≤ fr.length ∧ ∀ (i' : Nat), i' < x → okFr fr i' = true) ∧ (0 = (↑x : Int) ∧ True) ∧ True) ∧
 ∀ (x_1 : Nat),
 (x_1 ≤ fr.length ∧ ∀ (i' : Nat), i' < x_1 → okFr fr i' = true) →
 (decide ((↑x_1 : Int) < (↑fr.length : Int)) = true →
 (0 ≤ (↑x_1 : Int) ∧ (↑x_1 : Int) < (↑fr.length : Int)) ∧
 x_1 < fr.length ∧
 ((decide (inF fr x_1 < -1) || decide (inF fr x_1 ≥ (↑x_1 : Int))) = true →
 0 = (stampsR ag fr).fst.length ∧
 ((stampsR ag fr).fst.length = 0 ∧ True) ∧
 0 = (stampsR ag fr).fst.length ∧ 1 = (stampsR ag fr).snd ∧ True) ∧
 ((decide (inF fr x_1 < -1) || decide (inF fr x_1 ≥ (↑x_1 : Int))) = false →
 ∃ (x_2 : Nat),
 (x_2 ≤ fr.length ∧ ∀ (i' : Nat), i' < x_2 → okFr fr i' = true) ∧
 ((PLoop.of (lFr fr 25)).ann x).mu x_2 < ((PLoop.of (lFr fr 25)).ann x).mu x_1 ∧
 (ag.length = ag.length ∧
 fr.length = fr.length ∧
 ag.length = ag.length ∧
 (↑ag.length : Int) = (↑ag.length : Int) ∧
 fr.length = fr.length ∧
 (↑fr.length : Int) = (↑fr.length : Int) ∧
 false = false ∧
 ag.length = ag.length ∧
 (↑ag.length : Int) = (↑ag.length : Int) ∧
 false = false ∧
 fr.length = fr.length ∧
 (↑fr.length : Int) = (↑fr.length : Int) ∧
 IntKind.i64.wrap ((↑x_1 : Int) + 1) = (↑x_2 : Int) ∧ True) ∧
 (ag.length = ag.length ∧
 (∀ (j : Nat), j < ag.length → inF ag j = inF ag j) ∧ True) ∧
 (fr.length = fr.length ∧
 (∀ (j : Nat), j < fr.length → inF fr j = inF fr j) ∧ True) ∧
 (0 = 0 ∧ True ∧ True) ∧ True)) ∧
 (decide ((↑x_1 : Int) < (↑fr.length : Int)) = false →
 0 ≤ (↑ag.length : Int) ∧
 (↑24 : Int) * (↑ag.length : Int) ≤ 281474976710656 ∧
 (↑ag.length : Int) ≤ 9223372036854775807 ∧
 ∃ (x : PUnit),
 (∃ (x : Nat),
 x ≤ ag.length ∧
 (0 = (stL ag fr x).length ∧ 0 = (↑x : Int) ∧ True) ∧
 (0 = (stL ag fr x).length ∧ (stL ag fr x).length = 0 ∧ True) ∧
 (∀ (x_2 : Int), none = lastF ag x x_2) ∧ True) ∧
 ∀ (x_2 : Nat),
 x_2 ≤ ag.length →
 (decide ((↑x_2 : Int) < (↑ag.length : Int)) = true →
 (0 ≤ (↑x_2 : Int) ∧ (↑x_2 : Int) < (↑ag.length : Int)) ∧
 x_2 < ag.length ∧
 (isS (lastF ag x_2 (inF ag x_2)) = true →
 (0 ≤ val0 (lastF ag x_2 (inF ag x_2)) ∧
 val0 (lastF ag x_2 (inF ag x_2)) < (↑(stL ag fr x_2).length : Int)) ∧
 (val0 (lastF ag x_2 (inF ag x_2))).toNat < (stL ag fr x_2).length ∧
 (0 ≤ (↑x_2 : Int) ∧ (↑x_2 : Int) < (↑fr.length : Int)) ∧
 x_2 < fr.length ∧
 (decide (inF fr x_2 ≥ 0) = true →
 (0 ≤ (↑x_2 : Int) ∧ (↑x_2 : Int) < (↑fr.length : Int)) ∧
 x_2 < fr.length ∧
 (0 ≤ inF fr x_2 ∧
 inF fr x_2 < (↑(stL ag fr x_2).length : Int)) ∧
 (inF fr x_2).toNat < (stL ag fr x_2).length ∧
 (nthC (stL ag fr x_2)
 (val0
 (lastF ag x_2
 (inF ag x_2))).toNat).length =
 (nthC (stL ag fr x_2)
 (val0
 (lastF ag x_2
 (inF ag x_2))).toNat).length ∧
 (nthC (stL ag fr x_2) (inF fr x_2).toNat).length =
 (nthC (stL ag fr x_2)
 (inF fr x_2).toNat).length ∧
 ((mkL
 (nthC (stL ag fr x_2)
 (val0
 (lastF ag x_2
 (inF ag x_2))).toNat).length
 (agF
 (nthC (stL ag fr x_2)
 (val0
 (lastF ag x_2
 (inF ag x_2))).toNat))
 (ctF
 (nthC (stL ag fr x_2)
 (val0
 (lastF ag x_2
 (inF ag
 x_2))).toNat))).length ≤
 1099511627776 ∧
 (mkL
 (nthC (stL ag fr x_2)
 (inF fr x_2).toNat).length
 (agF
 (nthC (stL ag fr x_2)
 (inF fr x_2).toNat))
 (ctF
 (nthC (stL ag fr x_2)
 (inF fr x_2).toNat))).length ≤
 1099511627776) ∧
 joinL
 (mkL
 (nthC (stL ag fr x_2)
 (val0
 (lastF ag x_2
 (inF ag x_2))).toNat).length
 (agF
 (nthC (stL ag fr x_2)
 (val0
 (lastF ag x_2
 (inF ag x_2))).toNat))
 (ctF
 (nthC (stL ag fr x_2)
 (val0
 (lastF ag x_2
 (inF ag x_2))).toNat)))
 (mkL
 (nthC (stL ag fr x_2)
 (inF fr x_2).toNat).length
 (agF
 (nthC (stL ag fr x_2)
 (inF fr x_2).toNat))
 (ctF
 (nthC (stL ag fr x_2)
 (inF fr x_2).toNat))) =
 nxtC ag fr (stL ag fr x_2).length ∧
 (nxtC ag fr (stL ag fr x_2).length).length =
 (nxtC ag fr
 (stL ag fr x_2).length).length ∧
 (mkL
 (nxtC ag fr
 (stL ag fr x_2).length).length
 (agF
 (nxtC ag fr
 (stL ag fr x_2).length))
 (ctF
 (nxtC ag fr
 (stL ag fr
 x_2).length))).length ≤
 1099511627776 ∧
 advL
 (mkL
 (nxtC ag fr
 (stL ag fr x_2).length).length
 (agF
 (nxtC ag fr
 (stL ag fr x_2).length))
 (ctF
 (nxtC ag fr
 (stL ag fr x_2).length)))
 (inF ag x_2) =
 newC ag fr (stL ag fr x_2).length ∧
 (newC ag fr
 (stL ag fr x_2).length).length =
 (newC ag fr
 (stL ag fr x_2).length).length ∧
 (stL ag fr x_2).length =
 (stL ag fr x_2).length ∧
 1 = 1 ∧
 0 < 1 ∧
 ((stL ag fr x_2).length + 1) *
 24 ≤
 140737488355328 ∧
 (stL ag fr x_2).length + 1 ≤
 9223372036854775807 ∧
 ∃ (x_3 : Nat),
 x_3 ≤ ag.length ∧
 ((PLoop.of
 (lSt ag
 fr)).ann
 x).mu
 x_3 <
 ((PLoop.of
 (lSt ag
 fr)).ann
 x).mu
 x_2 ∧
 (ag.length =
 ag.length ∧
 fr.length =
 fr.length ∧
 (stL ag fr
 x_2).length +
 1 =
 (stL ag fr
 x_3).length ∧
 True ∧
 ag.length =
 ag.length ∧
 (↑ag.length :
 Int) =
 (↑ag.length :
 Int) ∧
 fr.length =
 fr.length ∧
 (↑fr.length :
 Int) =
 (↑fr.length :
 Int) ∧
 false =
 false ∧
 ag.length =
 ag.length ∧
 (↑ag.length :
 Int) =
 (↑ag.length :
 Int) ∧
 false =
 false ∧
 fr.length =
 fr.length ∧
 (↑fr.length :
 Int) =
 (↑fr.length :
 Int) ∧
 (↑x_1 :
 Int) =
 (↑x_1 :
 Int) ∧
 false =
 false ∧
 ag.length =
 ag.length ∧
 (↑ag.length :
 Int) =
 (↑ag.length :
 Int) ∧
 True ∧
 ag.length =
 ag.length ∧
 (↑ag.length :
 Int) =
 (↑ag.length :
 Int) ∧
 IntKind.i64.wrap
 ((↑x_2 :
 Int) +
 1) =
 (↑x_3 :
 Int) ∧
 True) ∧
 (ag.length =
 ag.length ∧
 (∀ (j : Nat),
 j <
 ag.length →
 inF ag j =
 inF ag
 j) ∧
 True) ∧
 (fr.length =
 fr.length ∧
 (∀ (j : Nat),
 j <
 fr.length →
 inF fr
 j =
 inF fr
 j) ∧
 True) ∧
 (0 = 0 ∧
 True ∧
 True) ∧
 ((stL ag fr
 x_2).length +
 1 =
 (stL ag
 fr
 x_3).length ∧
 ((∀
 (j :
 Nat),
 j <
 (stL
 ag
 fr
 x_3).length →
 (bif
 j.blt
 (stL
 ag
 fr
 x_2).length then
 (nthC
 (stL
 ag
 fr
 x_2)
 j).length
 else
 (newC
 ag
 fr
 (stL
 ag
 fr
 x_2).length).length) =
 (nthC
 (stL
 ag
 fr
 x_3)
 j).length) ∧
 (∀
 (j :
 Nat),
 j <
 (stL
 ag
 fr
 x_3).length →
 ∀
 (i :
 Nat),
 i <
 (nthC
 (stL
 ag
 fr
 x_3)
 j).length →
 (bif
 j.blt
 (stL
 ag
 fr
 x_2).length then
 agF
 (nthC
 (stL
 ag
 fr
 x_2)
 j)
 else
 agF
 (newC
 ag
 fr
 (stL
 ag
 fr
 x_2).length))
 i =
 agF
 (nthC
 (stL
 ag
 fr
 x_3)
 j)
 i) ∧
 (∀
 (j :
 Nat),
 j <
 (stL
 ag
 fr
 x_3).length →
 ∀
 (i :
 Nat),
 i <
 (nthC
 (stL
 ag
 fr
 x_3)
 j).length →
 (bif
 j.blt
 (stL
 ag
 fr
 x_2).length then
 ctF
 (nthC
 (stL
 ag
 fr
 x_2)
 j)
 else
 ctF
 (newC
 ag
 fr
 (stL
 ag
 fr
 x_2).length))
 i =
 ctF
 (nthC
 (stL
 ag
 fr
 x_3)
 j)
 i) ∧
 True) ∧
 True) ∧
 (∀
 (x :
 Int),
 (bif
 x ==
 inF
 ag
 x_2 then
 some
 (↑x_2 :
 Int)
 else
 lastF
 ag
 x_2
 x) =
 lastF
 ag
 x_3
 x) ∧
 True) ∧
 (decide (inF fr x_2 ≥ 0) = false →
 (nthC (stL ag fr x_2)
 (val0 (lastF ag x_2 (inF ag x_2))).toNat).length =
 (nthC (stL ag fr x_2)
 (val0 (lastF ag x_2 (inF ag x_2))).toNat).length ∧
 (mkL
 (nthC (stL ag fr x_2)
 (val0 (lastF ag x_2 (inF ag x_2))).toNat).length
 (agF
 (nthC (stL ag fr x_2)
 (val0 (lastF ag x_2 (inF ag x_2))).toNat))
 (ctF
 (nthC (stL ag fr x_2)
 (val0
 (lastF ag x_2
 (inF ag x_2))).toNat))).length ≤
 1099511627776 ∧
 advL
 (mkL
 (nthC (stL ag fr x_2)
 (val0
 (lastF ag x_2 (inF ag x_2))).toNat).length
 (agF
 (nthC (stL ag fr x_2)
 (val0 (lastF ag x_2 (inF ag x_2))).toNat))
 (ctF
 (nthC (stL ag fr x_2)
 (val0 (lastF ag x_2 (inF ag x_2))).toNat)))
 (inF ag x_2) =
 newC ag fr (stL ag fr x_2).length ∧
 (newC ag fr (stL ag fr x_2).length).length =
 (newC ag fr (stL ag fr x_2).length).length ∧
 (stL ag fr x_2).length = (stL ag fr x_2).length ∧
 1 = 1 ∧
 0 < 1 ∧
 ((stL ag fr x_2).length + 1) * 24 ≤
 140737488355328 ∧
 (stL ag fr x_2).length + 1 ≤
 9223372036854775807 ∧
 ∃ (x_3 : Nat),
 x_3 ≤ ag.length ∧
 ((PLoop.of (lSt ag fr)).ann x).mu x_3 <
 ((PLoop.of (lSt ag fr)).ann x).mu
 x_2 ∧
 (ag.length = ag.length ∧
 fr.length = fr.length ∧
 (stL ag fr x_2).length + 1 =
 (stL ag fr x_3).length ∧
 True ∧
 ag.length = ag.length ∧
 (↑ag.length : Int) =
 (↑ag.length : Int) ∧
 fr.length = fr.length ∧
 (↑fr.length : Int) =
 (↑fr.length :
 Int) ∧
 false = false ∧
 ag.length =
 ag.length ∧
 (↑ag.length :
 Int) =
 (↑ag.length :
 Int) ∧
 false =
 false ∧
 fr.length =
 fr.length ∧
 (↑fr.length :
 Int) =
 (↑fr.length :
 Int) ∧
 (↑x_1 :
 Int) =
 (↑x_1 :
 Int) ∧
 false =
 false ∧
 ag.length =
 ag.length ∧
 (↑ag.length :
 Int) =
 (↑ag.length :
 Int) ∧
 True ∧
 ag.length =
 ag.length ∧
 (↑ag.length :
 Int) =
 (↑ag.length :
 Int) ∧
 IntKind.i64.wrap
 ((↑x_2 :
 Int) +
 1) =
 (↑x_3 :
 Int) ∧
 True) ∧
 (ag.length = ag.length ∧
 (∀ (j : Nat),
 j < ag.length →
 inF ag j = inF ag j) ∧
 True) ∧
 (fr.length = fr.length ∧
 (∀ (j : Nat),
 j < fr.length →
 inF fr j = inF fr j) ∧
 True) ∧
 (0 = 0 ∧ True ∧ True) ∧
 ((stL ag fr x_2).length + 1 =
 (stL ag fr x_3).length ∧
 ((∀ (j : Nat),
 j <
 (stL ag fr
 x_3).length →
 (bif
 j.blt
 (stL ag fr
 x_2).length then
 (nthC
 (stL ag fr
 x_2)
 j).length
 else
 (newC ag fr
 (stL ag fr
 x_2).length).length) =
 (nthC
 (stL ag fr
 x_3)
 j).length) ∧
 (∀ (j : Nat),
 j <
 (stL ag fr
 x_3).length →
 ∀ (i : Nat),
 i <
 (nthC
 (stL
 ag
 fr
 x_3)
 j).length →
 (bif
 j.blt
 (stL
 ag
 fr
 x_2).length then
 agF
 (nthC
 (stL
 ag
 fr
 x_2)
 j)
 else
 agF
 (newC
 ag
 fr
 (stL
 ag
 fr
 x_2).length))
 i =
 agF
 (nthC
 (stL
 ag
 fr
 x_3)
 j)
 i) ∧
 (∀ (j : Nat),
 j <
 (stL ag fr
 x_3).length →
 ∀ (i : Nat),
 i <
 (nthC
 (stL
 ag
 fr
 x_3)
 j).length →
 (bif
 j.blt
 (stL
 ag
 fr
 x_2).length then
 ctF
 (nthC
 (stL
 ag
 fr
 x_2)
 j)
 else
 ctF
 (newC
 ag
 fr
 (stL
 ag
 fr
 x_2).length))
 i =
 ctF
 (nthC
 (stL
 ag
 fr
 x_3)
 j)
 i) ∧
 True) ∧
 True) ∧
 (∀ (x : Int),
 (bif
 x ==
 inF ag x_2 then
 some (↑x_2 : Int)
 else lastF ag x_2 x) =
 lastF ag x_3 x) ∧
 True)) ∧
 (isS (lastF ag x_2 (inF ag x_2)) = false →
 (0 ≤ (↑x_2 : Int) ∧ (↑x_2 : Int) < (↑fr.length : Int)) ∧
 x_2 < fr.length ∧
 (decide (inF fr x_2 ≥ 0) = true →
 (0 ≤ (↑x_2 : Int) ∧ (↑x_2 : Int) < (↑fr.length : Int)) ∧
 x_2 < fr.length ∧
 (0 ≤ inF fr x_2 ∧
 inF fr x_2 < (↑(stL ag fr x_2).length : Int)) ∧
 (inF fr x_2).toNat < (stL ag fr x_2).length ∧
 0 = 0 ∧
 (nthC (stL ag fr x_2) (inF fr x_2).toNat).length =
 (nthC (stL ag fr x_2) (inF fr x_2).toNat).length ∧
 (([] : List Tk).length ≤ 1099511627776 ∧
 (mkL
 (nthC (stL ag fr x_2)
 (inF fr x_2).toNat).length
 (agF
 (nthC (stL ag fr x_2) (inF fr x_2).toNat))
 (ctF
 (nthC (stL ag fr x_2)
 (inF fr x_2).toNat))).length ≤
 1099511627776) ∧
 joinL []
 (mkL
 (nthC (stL ag fr x_2)
 (inF fr x_2).toNat).length
 (agF
 (nthC (stL ag fr x_2) (inF fr x_2).toNat))
 (ctF
 (nthC (stL ag fr x_2)
 (inF fr x_2).toNat))) =
 nxtC ag fr (stL ag fr x_2).length ∧
 (nxtC ag fr (stL ag fr x_2).length).length =
 (nxtC ag fr (stL ag fr x_2).length).length ∧
 (mkL (nxtC ag fr (stL ag fr x_2).length).length
 (agF
 (nxtC ag fr (stL ag fr x_2).length))
 (ctF
 (nxtC ag fr
 (stL ag fr x_2).length))).length ≤
 1099511627776 ∧
 advL
 (mkL
 (nxtC ag fr
 (stL ag fr x_2).length).length
 (agF
 (nxtC ag fr (stL ag fr x_2).length))
 (ctF
 (nxtC ag fr
 (stL ag fr x_2).length)))
 (inF ag x_2) =
 newC ag fr (stL ag fr x_2).length ∧
 (newC ag fr (stL ag fr x_2).length).length =
 (newC ag fr
 (stL ag fr x_2).length).length ∧
 (stL ag fr x_2).length =
 (stL ag fr x_2).length ∧
 1 = 1 ∧
 0 < 1 ∧
 ((stL ag fr x_2).length + 1) * 24 ≤
 140737488355328 ∧
 (stL ag fr x_2).length + 1 ≤
 9223372036854775807 ∧
 ∃ (x_3 : Nat),
 x_3 ≤ ag.length ∧
 ((PLoop.of (lSt ag fr)).ann
 x).mu
 x_3 <
 ((PLoop.of
 (lSt ag
 fr)).ann
 x).mu
 x_2 ∧
 (ag.length = ag.length ∧
 fr.length =
 fr.length ∧
 (stL ag fr
 x_2).length +
 1 =
 (stL ag fr
 x_3).length ∧
 True ∧
 ag.length =
 ag.length ∧
 (↑ag.length :
 Int) =
 (↑ag.length :
 Int) ∧
 fr.length =
 fr.length ∧
 (↑fr.length :
 Int) =
 (↑fr.length :
 Int) ∧
 false =
 false ∧
 ag.length =
 ag.length ∧
 (↑ag.length :
 Int) =
 (↑ag.length :
 Int) ∧
 false =
 false ∧
 fr.length =
 fr.length ∧
 (↑fr.length :
 Int) =
 (↑fr.length :
 Int) ∧
 (↑x_1 :
 Int) =
 (↑x_1 :
 Int) ∧
 false =
 false ∧
 ag.length =
 ag.length ∧
 (↑ag.length :
 Int) =
 (↑ag.length :
 Int) ∧
 True ∧
 ag.length =
 ag.length ∧
 (↑ag.length :
 Int) =
 (↑ag.length :
 Int) ∧
 IntKind.i64.wrap
 ((↑x_2 :
 Int) +
 1) =
 (↑x_3 :
 Int) ∧
 True) ∧
 (ag.length = ag.length ∧
 (∀ (j : Nat),
 j < ag.length →
 inF ag j =
 inF ag j) ∧
 True) ∧
 (fr.length =
 fr.length ∧
 (∀ (j : Nat),
 j <
 fr.length →
 inF fr j =
 inF fr
 j) ∧
 True) ∧
 (0 = 0 ∧
 True ∧ True) ∧
 ((stL ag fr
 x_2).length +
 1 =
 (stL ag fr
 x_3).length ∧
 ((∀ (j : Nat),
 j <
 (stL
 ag
 fr
 x_3).length →
 (bif
 j.blt
 (stL
 ag
 fr
 x_2).length then
 (nthC
 (stL
 ag
 fr
 x_2)
 j).length
 else
 (newC
 ag
 fr
 (stL
 ag
 fr
 x_2).length).length) =
 (nthC
 (stL
 ag
 fr
 x_3)
 j).length) ∧
 (∀
 (j :
 Nat),
 j <
 (stL
 ag
 fr
 x_3).length →
 ∀
 (i :
 Nat),
 i <
 (nthC
 (stL
 ag
 fr
 x_3)
 j).length →
 (bif
 j.blt
 (stL
 ag
 fr
 x_2).length then
 agF
 (nthC
 (stL
 ag
 fr
 x_2)
 j)
 else
 agF
 (newC
 ag
 fr
 (stL
 ag
 fr
 x_2).length))
 i =
 agF
 (nthC
 (stL
 ag
 fr
 x_3)
 j)
 i) ∧
 (∀
 (j :
 Nat),
 j <
 (stL
 ag
 fr
 x_3).length →
 ∀
 (i :
 Nat),
 i <
 (nthC
 (stL
 ag
 fr
 x_3)
 j).length →
 (bif
 j.blt
 (stL
 ag
 fr
 x_2).length then
 ctF
 (nthC
 (stL
 ag
 fr
 x_2)
 j)
 else
 ctF
 (newC
 ag
 fr
 (stL
 ag
 fr
 x_2).length))
 i =
 ctF
 (nthC
 (stL
 ag
 fr
 x_3)
 j)
 i) ∧
 True) ∧
 True) ∧
 (∀ (x : Int),
 (bif
 x ==
 inF
 ag
 x_2 then
 some
 (↑x_2 :
 Int)
 else
 lastF ag
 x_2
 x) =
 lastF ag
 x_3 x) ∧
 True) ∧
 (decide (inF fr x_2 ≥ 0) = false →
 0 = 0 ∧
 ([] : List Tk).length ≤ 1099511627776 ∧
 advL [] (inF ag x_2) = newC ag fr (stL ag fr x_2).length ∧
 (newC ag fr (stL ag fr x_2).length).length =
 (newC ag fr (stL ag fr x_2).length).length ∧
 (stL ag fr x_2).length = (stL ag fr x_2).length ∧
 1 = 1 ∧
 0 < 1 ∧
 ((stL ag fr x_2).length + 1) * 24 ≤
 140737488355328 ∧
 (stL ag fr x_2).length + 1 ≤ 9223372036854775807 ∧
 ∃ (x_3 : Nat),
 x_3 ≤ ag.length ∧
 ((PLoop.of (lSt ag fr)).ann x).mu x_3 <
 ((PLoop.of (lSt ag fr)).ann x).mu x_2 ∧
 (ag.length = ag.length ∧
 fr.length = fr.length ∧
 (stL ag fr x_2).length + 1 =
 (stL ag fr x_3).length ∧
 True ∧
 ag.length = ag.length ∧
 (↑ag.length : Int) =
 (↑ag.length : Int) ∧
 fr.length = fr.length ∧
 (↑fr.length : Int) =
 (↑fr.length : Int) ∧
 false = false ∧
 ag.length =
 ag.length ∧
 (↑ag.length : Int) =
 (↑ag.length :
 Int) ∧
 false = false ∧
 fr.length =
 fr.length ∧
 (↑fr.length :
 Int) =
 (↑fr.length :
 Int) ∧
 (↑x_1 :
 Int) =
 (↑x_1 :
 Int) ∧
 false =
 false ∧
 ag.length =
 ag.length ∧
 (↑ag.length :
 Int) =
 (↑ag.length :
 Int) ∧
 True ∧
 ag.length =
 ag.length ∧
 (↑ag.length :
 Int) =
 (↑ag.length :
 Int) ∧
 IntKind.i64.wrap
 ((↑x_2 :
 Int) +
 1) =
 (↑x_3 :
 Int) ∧
 True) ∧
 (ag.length = ag.length ∧
 (∀ (j : Nat),
 j < ag.length →
 inF ag j = inF ag j) ∧
 True) ∧
 (fr.length = fr.length ∧
 (∀ (j : Nat),
 j < fr.length →
 inF fr j = inF fr j) ∧
 True) ∧
 (0 = 0 ∧ True ∧ True) ∧
 ((stL ag fr x_2).length + 1 =
 (stL ag fr x_3).length ∧
 ((∀ (j : Nat),
 j <
 (stL ag fr
 x_3).length →
 (bif
 j.blt
 (stL ag fr
 x_2).length then
 (nthC
 (stL ag fr
 x_2)
 j).length
 else
 (newC ag fr
 (stL ag fr
 x_2).length).length) =
 (nthC
 (stL ag fr x_3)
 j).length) ∧
 (∀ (j : Nat),
 j <
 (stL ag fr
 x_3).length →
 ∀ (i : Nat),
 i <
 (nthC
 (stL ag fr
 x_3)
 j).length →
 (bif
 j.blt
 (stL
 ag
 fr
 x_2).length then
 agF
 (nthC
 (stL
 ag
 fr
 x_2)
 j)
 else
 agF
 (newC ag
 fr
 (stL
 ag
 fr
 x_2).length))
 i =
 agF
 (nthC
 (stL ag fr
 x_3)
 j)
 i) ∧
 (∀ (j : Nat),
 j <
 (stL ag fr
 x_3).length →
 ∀ (i : Nat),
 i <
 (nthC
 (stL ag
 fr
 x_3)
 j).length →
 (bif
 j.blt
 (stL
 ag
 fr
 x_2).length then
 ctF
 (nthC
 (stL
 ag
 fr
 x_2)
 j)
 else
 ctF
 (newC
 ag
 fr
 (stL
 ag
 fr
 x_2).length))
 i =
 ctF
 (nthC
 (stL ag
 fr
 x_3)
 j)
 i) ∧
 True) ∧
 True) ∧
 (∀ (x : Int),
 (bif x == inF ag x_2 then
 some (↑x_2 : Int)
 else lastF ag x_2 x) =
 lastF ag x_3 x) ∧
 True))) ∧
 (decide ((↑x_2 : Int) < (↑ag.length : Int)) = false →
 (stL ag fr x_2).length = (stampsR ag fr).fst.length ∧
 (((∀ (j : Nat),
 j < (stampsR ag fr).fst.length →
 (nthC (stL ag fr x_2) j).length =
 (nthC (stampsR ag fr).fst j).length) ∧
 (∀ (j : Nat),
 j < (stampsR ag fr).fst.length →
 ∀ (i : Nat),
 i < (nthC (stampsR ag fr).fst j).length →
 agF (nthC (stL ag fr x_2) j) i =
 agF (nthC (stampsR ag fr).fst j) i) ∧
 (∀ (j : Nat),
 j < (stampsR ag fr).fst.length →
 ∀ (i : Nat),
 i < (nthC (stampsR ag fr).fst j).length →
 ctF (nthC (stL ag fr x_2) j) i =
 ctF (nthC (stampsR ag fr).fst j) i) ∧
 True) ∧
 True) ∧
 (stL ag fr x_2).length = (stampsR ag fr).fst.length ∧
 0 = (stampsR ag fr).snd ∧ True))))) := by kernel_rfl
theorem v25 (ag fr : List Int) (hA : ag.length ≤ 1099511627776) (hB : fr.length ≤ 1099511627776) : fnVc (tab (cSt ag fr) [(0, .of (lFr fr 25)), (2, .of (lSt ag fr))]) Try.f25 [.sl 0 ag.length, .sl 1 fr.length] [intArr ag, intArr fr] (resIs (.tup [.sl 0 (stampsR ag fr).1.length, .i .i64 (stampsR ag fr).2]) 23 (stampsR ag fr).1.length (rowsC (stampsR ag fr).1)) := by
  rw [v25_eq]
  refine ⟨fun h => ?_, fun h => ⟨fun h2 => ?_, fun h2 => ?_⟩⟩
  · have h : ¬ ag.length = fr.length := by
      intro e
      rw [e] at h
      simp at h
    have e : stampsR ag fr = ([], 1) := by simp [stampsR, h]
    simp [e]
  · have h : ag.length = fr.length := by
      have := h
      simp at this
      omega
    have h2 : ¬ ag.length ≤ 512 := by simp at h2; omega
    have e : stampsR ag fr = ([], 4) := by
      unfold stampsR
      rw [decide_eq_true h, decide_eq_false h2]
      rfl
    simp [e]
  · have h : ag.length = fr.length := by
      have := h
      simp at this
      omega
    have h2 : ag.length ≤ 512 := by simp at h2; omega
    refine ⟨(), ⟨0, ⟨by omega, fun i hi => by omega⟩, ⟨rfl, trivial⟩, trivial⟩, fun y hy => ⟨fun hlt => ?_, fun hlt => ?_⟩⟩
    · have hlt : y < fr.length := by simpa using hlt
      refine ⟨⟨by omega, by omega⟩, hlt, fun hb => ?_, fun hb => ⟨y + 1, ⟨by omega, lt_step (p := okFr fr) hy.2 (by simp only [okFr, hb]; rfl)⟩, mu_of (by simp only [lFr]; omega), ?_⟩⟩
      · have hno : frOk fr = false := allN_no hlt (by simp only [okFr, hb]; rfl)
        have e : stampsR ag fr = ([], 1) := by
          unfold stampsR
          rw [decide_eq_true h, decide_eq_true h2, hno]
          rfl
        simp [e]
      · have hw : IntKind.i64.wrap ((y : Int) + 1) = ((y + 1 : Nat) : Int) := wrS hlt hB
        simp [hw]
    · have hlt : ¬ y < fr.length := by simpa using hlt
      have hfr : ∀ i, i < fr.length → okFr fr i = true := fun i hi => hy.2 i (by omega)
      have e : stampsR ag fr = (stL ag fr ag.length, 0) := by
        unfold stampsR
        rw [decide_eq_true h, decide_eq_true h2, show frOk fr = true from allN_iff.2 hfr]
        rfl
      refine ⟨by omega, by omega, by omega, (), ⟨0, by omega, ⟨rfl, rfl, trivial⟩, ⟨rfl, rfl, trivial⟩, fun _ => rfl, trivial⟩, fun x hx => ⟨fun hlt => ?_, fun hlt => ?_⟩⟩
      · have hlt : x < ag.length := by simpa using hlt
        have hwx : IntKind.i64.wrap ((x : Int) + 1) = ((x + 1 : Nat) : Int) := wrS hlt hA
        obtain ⟨g1, g2⟩ := st_good (ag := ag) hfr x (by omega) (by omega)
        have g2 := g2 (by omega)
        have hst : stL ag fr x ++ [newC ag fr x] = stL ag fr (x + 1) := rfl
        have hfx := hfr x (by omega)
        simp only [okFr, Bool.not_eq_true', Bool.or_eq_false_iff, decide_eq_false_iff_not] at hfx
        have hnl : (nxtC ag fr x).length ≤ 1099511627776 := by have := g2.len; omega
        have bx : 0 ≤ (x : Int) ∧ (x : Int) < (fr.length : Int) := by omega
        have hxf : x < fr.length := by omega
        refine ⟨⟨by omega, by omega⟩, hlt, fun hs => ?_, fun hs => ?_⟩
        · have hl := last_lt (isS_some hs)
          have hkl : (val0 (lastF ag x (inF ag x))).toNat < x := by omega
          have hbl : (nthC (stL ag fr x) (val0 (lastF ag x (inF ag x))).toNat).length ≤ 1099511627776 := by have := (g1 _ hkl).len; omega
          have eb : baseC ag (stL ag fr x) x = nthC (stL ag fr x) (val0 (lastF ag x (inF ag x))).toNat := by simp only [baseC, hs, cond_true]
          simp only [mkL_self, stL_len]
          refine ⟨by omega, hkl, bx, hxf, fun hf => ?_, fun hf => ?_⟩
          · have hf0 : inF fr x ≥ 0 := by simpa using hf
            have hfl : (inF fr x).toNat < x := by omega
            have hrl : (nthC (stL ag fr x) (inF fr x).toNat).length ≤ 1099511627776 := by have := (g1 _ hfl).len; omega
            have ej : joinL (nthC (stL ag fr x) (val0 (lastF ag x (inF ag x))).toNat) (nthC (stL ag fr x) (inF fr x).toNat) = nxtC ag fr x := by
              simp only [nxtC, nextC, hf, eb, cond_true]
            refine ⟨bx, hxf, by omega, hfl, trivial, trivial, ⟨hbl, hrl⟩, ej, trivial, hnl, rfl, trivial, trivial, trivial, by omega, by omega, by omega, ?_⟩
            refine ⟨x + 1, by omega, mu_of (by simp only [lSt]; omega), ?_⟩
            have r1 := (rows_eq (c := newC ag fr x) (stL_len ag fr x) Tk.ag).1
            have r2 := (rows_eq (c := newC ag fr x) (stL_len ag fr x) Tk.ag).2 agF
            have r3 := (rows_eq (c := newC ag fr x) (stL_len ag fr x) Tk.ag).2 ctF
            rw [hst] at r1 r2 r3
            rw [stL_len] at r1 r2 r3
            simp only [hwx, stL_len, true_and, and_true, implies_true]
            exact ⟨⟨r1, r2, r3⟩, fun _ => rfl⟩
          · have ej : nthC (stL ag fr x) (val0 (lastF ag x (inF ag x))).toNat = nxtC ag fr x := by
              simp only [nxtC, nextC, hf, eb, cond_false]
            refine ⟨trivial, hbl, by rw [ej]; rfl, trivial, trivial, trivial, by omega, by omega, by omega, ?_⟩
            refine ⟨x + 1, by omega, mu_of (by simp only [lSt]; omega), ?_⟩
            have r1 := (rows_eq (c := newC ag fr x) (stL_len ag fr x) Tk.ag).1
            have r2 := (rows_eq (c := newC ag fr x) (stL_len ag fr x) Tk.ag).2 agF
            have r3 := (rows_eq (c := newC ag fr x) (stL_len ag fr x) Tk.ag).2 ctF
            rw [hst] at r1 r2 r3
            rw [stL_len] at r1 r2 r3
            simp only [hwx, stL_len, true_and, and_true, implies_true]
            exact ⟨⟨r1, r2, r3⟩, fun _ => rfl⟩
        · have eb : baseC ag (stL ag fr x) x = [] := by simp only [baseC, hs, cond_false]
          simp only [mkL_self, stL_len]
          refine ⟨bx, hxf, fun hf => ?_, fun hf => ?_⟩
          · have hf0 : inF fr x ≥ 0 := by simpa using hf
            have hfl : (inF fr x).toNat < x := by omega
            have hrl : (nthC (stL ag fr x) (inF fr x).toNat).length ≤ 1099511627776 := by have := (g1 _ hfl).len; omega
            have ej : joinL [] (nthC (stL ag fr x) (inF fr x).toNat) = nxtC ag fr x := by
              simp only [nxtC, nextC, hf, eb, cond_true]
            refine ⟨bx, hxf, by omega, hfl, trivial, trivial, ⟨by simp, hrl⟩, ej, trivial, hnl, rfl, trivial, trivial, trivial, by omega, by omega, by omega, ?_⟩
            refine ⟨x + 1, by omega, mu_of (by simp only [lSt]; omega), ?_⟩
            have r1 := (rows_eq (c := newC ag fr x) (stL_len ag fr x) Tk.ag).1
            have r2 := (rows_eq (c := newC ag fr x) (stL_len ag fr x) Tk.ag).2 agF
            have r3 := (rows_eq (c := newC ag fr x) (stL_len ag fr x) Tk.ag).2 ctF
            rw [hst] at r1 r2 r3
            rw [stL_len] at r1 r2 r3
            simp only [hwx, stL_len, true_and, and_true, implies_true]
            exact ⟨⟨r1, r2, r3⟩, fun _ => rfl⟩
          · have ej : nxtC ag fr x = [] := by
              simp only [nxtC, nextC, hf, eb, cond_false]
            refine ⟨trivial, by simp, by rw [← ej]; rfl, trivial, trivial, trivial, by omega, by omega, by omega, ?_⟩
            refine ⟨x + 1, by omega, mu_of (by simp only [lSt]; omega), ?_⟩
            have r1 := (rows_eq (c := newC ag fr x) (stL_len ag fr x) Tk.ag).1
            have r2 := (rows_eq (c := newC ag fr x) (stL_len ag fr x) Tk.ag).2 agF
            have r3 := (rows_eq (c := newC ag fr x) (stL_len ag fr x) Tk.ag).2 ctF
            rw [hst] at r1 r2 r3
            rw [stL_len] at r1 r2 r3
            simp only [hwx, stL_len, true_and, and_true, implies_true]
            exact ⟨⟨r1, r2, r3⟩, fun _ => rfl⟩
      · have hlt : ¬ x < ag.length := by simpa using hlt
        obtain rfl : x = ag.length := by omega
        rw [e]
        simp
theorem fo25 : fnOk Try.prog 25 := ⟨Try.f25, Try.func25, by kernel_rfl, by kernel_rfl⟩

def LI (l : List Int) : Prop := l.length ≤ 1099511627776
def rSt : List MBlk → List SV → Option AR := fun m vs => match vs with
  | [x, y] => match ckI m x, ckI m y with
    | some (_, n, n', a), some (_, k, k', b) => some ⟨[n = n', k = k', LI a, LI b], .tup [.sl m.length (stampsR a b).1.length, .i .i64 (stampsR a b).2], [.oarr 23 (stampsR a b).1.length (rowsC (stampsR a b).1)]⟩
    | _, _ => none
  | _ => none
theorem c25 : CallOk Try.prog [] 25 rSt := by
  refine callOk_nil Try.func25 fo25 fun m vs ar h hp => ?_
  unfold rSt at h
  split at h
  · rename_i x y
    split at h
    · rename_i r n n' l q k k' b hx hy
      simp only [Option.some.injEq] at h
      subst h
      have hn : n = n' := hp _ (by simp)
      have hk : k = k' := hp _ (by simp)
      have p1 : LI l := hp _ (by simp)
      have p2 : LI b := hp _ (by simp)
      exact ⟨_, tabOk (loops := [(0, .of (lFr b 25)), (2, .of (lSt l b))]) (mcSt l b), two r q, [intArr l, intArr b], [.sl 0 l.length, .sl 1 b.length], fun ρ xs h => h.conv2 (fun v hv => ckI_den hx hn rfl hv) (fun _ h => h.conv2 (fun v hv => ckI_den hy hk rfl hv) (fun _ h => h.nilc)), rfl, rfl, knI hx hn hy hk, fun g i hi => absurd hi (by simp [tab, assoc]), .inr ⟨.tup [.sl 0 _, .i .i64 _], 23, _, _, rfl, by simp [rowsC], rfl, rfl, v25 l b p1 p2⟩⟩
    · cases h
  · cases h
end Go.Proofs.Ythdmdlipifpbhaa
