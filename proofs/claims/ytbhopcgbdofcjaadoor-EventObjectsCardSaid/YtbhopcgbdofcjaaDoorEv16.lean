/-
  A part of the proof (Ev16).
-/
import Derived.Test.YtbhopcgbdofcjaaDoorEv15
namespace Go.Proofs.YtbhopcgbdofcjaaDoor
open Go Go.Proofs.YtbhopcgbdofcjaaDoor.Sx
set_option maxRecDepth 100000
set_option linter.unusedSimpArgs false
set_option linter.unusedVariables false

theorem fo18 : fnOk Tryd.prog 18 := ⟨Tryd.f18, Tryd.func18, by kernel_rfl, by kernel_rfl⟩
theorem fo20 : fnOk Tryd.prog 20 := ⟨Tryd.f20, Tryd.func20, by kernel_rfl, by kernel_rfl⟩
theorem v18_eq (e : Ev) : (fnVc (tabG cE []) Tryd.f18 [evSV e] [tbl] (plainIs (evSV (clrE e)))) = (e.ag = (clrE e).ag ∧
  7 = (clrE e).ix ∧
    e.k = (clrE e).k ∧
      e.ob = (clrE e).ob ∧ e.mu = (clrE e).mu ∧ e.en = (clrE e).en ∧ 0 = (clrE e).od ∧ 0 = (clrE e).rd ∧ 0 = (clrE e).wr) := by kernel_rfl
theorem v18 (e : Ev)  : fnVc (tabG cE []) Tryd.f18 [evSV e] [tbl] (plainIs (evSV (clrE e))) := by
  rw [v18_eq]
  exact ⟨rfl, rfl, rfl, rfl, rfl, rfl, rfl, rfl, rfl⟩
theorem v20_eq (e : Ev) (n : Int) : (fnVc (tabG cE []) Tryd.f20 [evSV e, .i .i64 n] [tbl] (plainIs (evSV (movE e n)))) = ((decide (e.ag ≥ 0) = true →
    ((e.k == 16 || e.k == 17) = true →
        IntKind.i64.wrap (e.ag + n) = (movE e n).ag ∧
          e.ix = (movE e n).ix ∧
            e.k = (movE e n).k ∧
              IntKind.i64.wrap (e.ob + n) = (movE e n).ob ∧
                e.mu = (movE e n).mu ∧
                  e.en = (movE e n).en ∧ e.od = (movE e n).od ∧ e.rd = (movE e n).rd ∧ e.wr = (movE e n).wr) ∧
      ((e.k == 16 || e.k == 17) = false →
        IntKind.i64.wrap (e.ag + n) = (movE e n).ag ∧
          e.ix = (movE e n).ix ∧
            e.k = (movE e n).k ∧
              e.ob = (movE e n).ob ∧
                e.mu = (movE e n).mu ∧
                  e.en = (movE e n).en ∧ e.od = (movE e n).od ∧ e.rd = (movE e n).rd ∧ e.wr = (movE e n).wr)) ∧
  (decide (e.ag ≥ 0) = false →
    ((e.k == 16 || e.k == 17) = true →
        IntKind.i64.wrap (e.ag - n) = (movE e n).ag ∧
          e.ix = (movE e n).ix ∧
            e.k = (movE e n).k ∧
              IntKind.i64.wrap (e.ob + n) = (movE e n).ob ∧
                e.mu = (movE e n).mu ∧
                  e.en = (movE e n).en ∧ e.od = (movE e n).od ∧ e.rd = (movE e n).rd ∧ e.wr = (movE e n).wr) ∧
      ((e.k == 16 || e.k == 17) = false →
        IntKind.i64.wrap (e.ag - n) = (movE e n).ag ∧
          e.ix = (movE e n).ix ∧
            e.k = (movE e n).k ∧
              e.ob = (movE e n).ob ∧
                e.mu = (movE e n).mu ∧
                  e.en = (movE e n).en ∧ e.od = (movE e n).od ∧ e.rd = (movE e n).rd ∧ e.wr = (movE e n).wr))) := by kernel_rfl
theorem v20 (e : Ev) (n : Int)  : fnVc (tabG cE []) Tryd.f20 [evSV e, .i .i64 n] [tbl] (plainIs (evSV (movE e n))) := by
  rw [v20_eq]
  refine ⟨fun h => ⟨fun h' => ?_, fun h' => ?_⟩, fun h => ⟨fun h' => ?_, fun h' => ?_⟩⟩ <;> simp only [movE, h, h', cond_true, cond_false] <;> first | exact ⟨rfl, trivial, trivial, rfl, trivial, trivial, trivial, trivial, trivial⟩ | exact ⟨rfl, trivial, trivial, trivial, trivial, trivial, trivial, trivial, trivial⟩
theorem c18 : CallOk Tryd.prog GL 18 (fE1 (fun _ => True) fun e => evSV (clrE e)) := okE1 (tabOkG mcE) Tryd.func18 fo18 (fun _ => rfl) (fun e _ => v18 e)
theorem c19 : CallOk Tryd.prog GL 19 (fE1 (fun _ => True) fun e => .b (nearE e)) := okE1 (tabOkG mcE) Tryd.func19 fo19 (fun _ => ltB_b _ _) (fun e _ => v19 e)
theorem c20 : CallOk Tryd.prog GL 20 (fEI fun e n => evSV (movE e n)) := by
  refine callOk_gen Tryd.func20 fo20 fun m vs ar h hp => ?_
  unfold fEI at h
  split at h
  · rename_i x n
    split at h
    · rename_i e he
      simp only [Option.some.injEq] at h
      subst h
      obtain rfl := dEv_some he
      have h0 : nth m 0 = some tbl := hp _ (by simp)
      refine ⟨_, tabOkG (loops := []) mcE, id, [tbl], [evSV e, .i .i64 n], fun ρ xs h => h, rfl, rfl, fun i k0 h => ?_, fun g i h => ?_, .inl ⟨rfl, rfl, v20 e n⟩⟩
      · cases i with
        | zero => simp at h; subst h; exact ⟨tbl, by rw [← nth_eq]; exact h0, rfl⟩
        | succ i => simp at h
      · cases g with
        | zero => cases h; exact ⟨by simp, rfl⟩
        | succ g => cases h
    · cases h
  · cases h
def cSt : Calling := cE ++ [(8, fAw), (18, fE1 (fun _ => True) fun e => evSV (clrE e)), (19, fE1 (fun _ => True) fun e => .b (nearE e)), (20, fEI fun e n => evSV (movE e n))]
theorem mcSt : ∀ p ∈ cSt, CallOk Tryd.prog GL p.1 p.2 := mApp mcE fun p hp => by
  simp only [List.mem_cons, List.not_mem_nil, or_false] at hp
  rcases hp with rfl | rfl | rfl | rfl
  · exact c8
  · exact c18
  · exact c19
  · exact c20
theorem near_of {e : Ev} (hN : nearE e = true) (hv : validE e = true) (hlo : -9223372036854775808 ≤ e.ag) : Near e := by
  simp only [nearE, Bool.and_eq_true, decide_eq_true_eq] at hN
  refine ⟨?_, ?_, fun hk => ?_, hN.2⟩
  · by_cases h : 0 ≤ e.ag
    · omega
    · have := thread_neg (n := e.ag) (by omega) hlo
      omega
  · by_cases h : 0 ≤ e.ag
    · rw [thread_pos h] at hN; exact hN.1
    · omega
  · unfold validE at hv
    simp only [Bool.and_eq_true] at hv
    have ho : objE e = true := hv.1.1.1.1.1.1.1.1.2
    unfold objE at ho
    have e1 : (e.k == 7) = false := by simp; omega
    have e2 : (e.k == 9 || e.k == 10 || e.k == 11) = false := by simp; omega
    have e3 : (e.k == 12 || e.k == 13 || e.k == 14 || e.k == 15) = false := by simp; omega
    have e4 : (e.k == 16 || e.k == 17) = true := by simpa using hk
    simp only [e1, e2, e3, e4, cond_true, cond_false, decide_eq_true_eq] at ho
    exact ho
theorem v5_eq (e d : Ev) (n : Int) : (fnVc (tabG cSt []) Tryd.f5 [evSV e, evSV d, .i .u16 n] [tbl] (plainIs .tt)) = (some tbl = some tbl ∧
  True ∧
    some tbl = some tbl ∧
      True ∧
        ((!depE e d == depE d e) = false → some tbl = some tbl) ∧
          ((!depE e d == depE d e) = false → True) ∧
            ((!depE e d == depE d e) = false → some tbl = some tbl) ∧
              ((!depE e d == depE d e) = false → True) ∧
                (depE e d = true → (!depE e d == depE d e || !depE e e == validE e) = false → some tbl = some tbl) ∧
                  (depE e d = true → (!depE e d == depE d e || !depE e e == validE e) = false → True) ∧
                    (validE e = true →
                        depE e d = true →
                          (!depE e d == depE d e || !depE e e == validE e) = false → some tbl = some tbl) ∧
                      (validE e = true →
                          depE e d = true → (!depE e d == depE d e || !depE e e == validE e) = false → True) ∧
                        ((!depE e d == depE d e || !depE e e == validE e || depE e d && !(validE e && validE d)) =
                              true →
                            false = true) ∧
                          ((!depE e d == depE d e || !depE e e == validE e || depE e d && !(validE e && validE d)) =
                              false →
                            some tbl = some tbl ∧
                              True ∧
                                ((!validE e) = false → some tbl = some tbl) ∧
                                  ((!validE e) = false → True) ∧
                                    ((!validE e || !validE d) = true → some tbl = some tbl ∧ true = true) ∧
                                      ((!validE e || !validE d) = false →
                                        some tbl = some tbl ∧
                                          True ∧
                                            some tbl = some tbl ∧
                                              True ∧
                                                some tbl = some tbl ∧
                                                  True ∧
                                                    ((!depE (clrE e) (clrE d) == depE e d) = false →
                                                        some tbl = some tbl) ∧
                                                      ((!depE (clrE e) (clrE d) == depE e d) = false → True) ∧
                                                        ((!depE (clrE e) (clrE d) == depE e d) = false →
                                                            some tbl = some tbl) ∧
                                                          ((!depE (clrE e) (clrE d) == depE e d) = false → True) ∧
                                                            ((!depE (clrE e) (clrE d) == depE e d ||
                                                                    !depE (clrE e) d == depE e d) =
                                                                  true →
                                                                false = true) ∧
                                                              ((!depE (clrE e) (clrE d) == depE e d ||
                                                                    !depE (clrE e) d == depE e d) =
                                                                  false →
                                                                some tbl = some tbl ∧
                                                                  True ∧
                                                                    ((!nearE e) = false → some tbl = some tbl) ∧
                                                                      ((!nearE e) = false → True) ∧
                                                                        ((!nearE e || !nearE d) = true →
                                                                            some tbl = some tbl ∧ true = true) ∧
                                                                          ((!nearE e || !nearE d) = false →
                                                                            some tbl = some tbl ∧
                                                                              some tbl = some tbl ∧
                                                                                some tbl = some tbl ∧
                                                                                  some tbl = some tbl ∧
                                                                                    True ∧
                                                                                      (depE
                                                                                            (movE e
                                                                                              (IntKind.i64.wrap n))
                                                                                            (movE d
                                                                                              (IntKind.i64.wrap n)) ==
                                                                                          depE e d) =
                                                                                        true))))) := by kernel_rfl
theorem v5 (e d : Ev) (n : Int) (he : -9223372036854775808 ≤ e.ag) (hd : -9223372036854775808 ≤ d.ag) (h0 : 0 ≤ n) (h1 : n < 65536) : fnVc (tabG cSt []) Tryd.f5 [evSV e, evSV d, .i .u16 n] [tbl] (plainIs .tt) := by
  rw [v5_eq]
  have hs := depE_comm e d
  have h3 : depE e d = true → validE e = true ∧ validE d = true := depE_valid
  have hn : IntKind.i64.wrap n = n := w64_eq (by omega) (by omega)
  rw [hn, depE_self]
  have hb1 : (depE e d == depE d e) = true := by rw [hs]; exact beq_self_eq_true _
  have hb2 : (validE e == validE e) = true := beq_self_eq_true _
  have hb3 : (depE e d && !(validE e && validE d)) = false := by
    cases h : depE e d
    · rfl
    · obtain ⟨h4, h5⟩ := h3 h; rw [h4, h5]; rfl
  rw [hb1, hb2, hb3]
  simp only [Bool.not_true, Bool.or_false, Bool.or_self, Bool.false_eq_true, reduceCtorEq, false_imp_iff, imp_self, implies_true, and_self, true_and, forall_const, and_true]
  by_cases hv : validE e = true ∧ validE d = true
  · obtain ⟨hv1, hv2⟩ := hv
    have c1 : (depE (clrE e) (clrE d) == depE e d) = true := by rw [dep_clr hv1 hv2]; exact beq_self_eq_true _
    have c2 : (depE (clrE e) d == depE e d) = true := by rw [dep_clr1 hv1 hv2]; exact beq_self_eq_true _
    rw [hv1, hv2, c1, c2]
    simp only [Bool.not_true, Bool.or_false, Bool.or_self, Bool.false_eq_true, reduceCtorEq, false_imp_iff, imp_self, implies_true, and_self, true_and, forall_const, and_true]
    intro hN
    have hN1 : nearE e = true := by cases h : nearE e <;> simp_all
    have hN2 : nearE d = true := by cases h : nearE d <;> simp_all
    rw [dep_mov (near_of hN1 hv1 he) (near_of hN2 hv2 hd) h0 h1]
    exact beq_self_eq_true _
  · have : (!validE e || !validE d) = true := by
      cases h : validE e <;> cases h' : validE d <;> simp_all
    rw [this]
    simp
end Go.Proofs.YtbhopcgbdofcjaaDoor
