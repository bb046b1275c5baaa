/-
  The event layer: dependence is symmetric, and stable under clearing and moving (plain facts).
-/
import Derived.Test.YtbhopcgbdofcjaaDoorEv9
namespace Go.Proofs.YtbhopcgbdofcjaaDoor
open Go Go.Proofs.YtbhopcgbdofcjaaDoor.Sx

theorem any_swap {α β : Type} (l : List α) (m : List β) (p : α → β → Bool) : (l.any fun x => m.any fun y => p x y) = (m.any fun y => l.any fun x => p x y) := by
  rw [Bool.eq_iff_iff]
  simp only [List.any_eq_true]
  constructor
  · rintro ⟨x, hx, y, hy, h⟩; exact ⟨y, hy, x, hx, h⟩
  · rintro ⟨x, hx, y, hy, h⟩; exact ⟨y, hy, x, hx, h⟩
theorem beq_comm' (a b : Int) : (a == b) = (b == a) := by rw [Bool.eq_iff_iff, beq_iff_eq, beq_iff_eq]; exact eq_comm
theorem hit_comm (x y : Ac) : hit x y = hit y x := by
  unfold hit
  rw [beq_comm' x.k, beq_comm' x.i, beq_comm' x.s, Bool.or_comm]
theorem conf_comm (l m : List Ac) : conf l m = conf m l := by
  unfold conf
  rw [any_swap]
  simp only [hit_comm]
theorem depE_comm (e d : Ev) : depE e d = depE d e := by
  unfold depE
  rw [conf_comm, beq_comm' e.ag]
  cases validE e <;> cases validE d <;> cases (d.ag == e.ag) <;> cases creE e d <;> cases creE d e <;> cases draE e d <;> cases draE d e <;> rfl
theorem depE_self (e : Ev) : depE e e = validE e := by
  unfold depE
  simp
theorem depE_valid {e d : Ev} (h : depE e d = true) : validE e = true ∧ validE d = true := by
  unfold depE at h
  simp only [Bool.and_eq_true] at h
  exact h.1
theorem clr_valid {e : Ev} (h : validE e = true) : validE (clrE e) = true := by
  unfold validE at h ⊢
  simp only [Bool.and_eq_true] at h ⊢
  obtain ⟨⟨⟨⟨⟨⟨⟨⟨⟨⟨⟨⟨h1, h2⟩, h3⟩, _⟩, h5⟩, _⟩, h7⟩, _⟩, _⟩, _⟩, _⟩, _⟩, h13⟩ := h
  refine ⟨⟨⟨⟨⟨⟨⟨⟨⟨⟨⟨⟨h1, h2⟩, h3⟩, by simp [clrE]⟩, h5⟩, ?_⟩, h7⟩, by simp [clrE]⟩, by simp [clrE]⟩, by simp [clrE]⟩, by simp [clrE, isVal]⟩, by simp [clrE]⟩, h13⟩
  simp only [resE, clrE]
  cases (e.k == 11 || e.k == 14) <;> cases (e.k == 15) <;> simp [within, isVal]
theorem clr_acc (e : Ev) : acc (clrE e) = acc e := rfl
theorem dep_clr {e d : Ev} (he : validE e = true) (hd : validE d = true) : depE (clrE e) (clrE d) = depE e d := by
  unfold depE
  rw [clr_valid he, clr_valid hd, he, hd]
  rfl
theorem dep_clr1 {e d : Ev} (he : validE e = true) (_ : validE d = true) : depE (clrE e) d = depE e d := by
  unfold depE
  rw [clr_valid he, he]
  rfl

/-! ### Moving -/
theorem w64_eq {n : Int} (h : -9223372036854775808 ≤ n) (h' : n ≤ 9223372036854775807) : w64 n = n := by
  unfold w64
  simp only [IntKind.wrap, IntKind.signed, IntKind.bits]
  simp
  omega
structure Near (e : Ev) : Prop where
  lo : -1099511627776 ≤ e.ag
  hi : e.ag < 1099511627776
  ol : e.k = 16 ∨ e.k = 17 → 0 ≤ e.ob
  oh : e.ob < 1099511627776
theorem thread_pos {n : Int} (h : 0 ≤ n) : threadI n = n := by
  unfold threadI
  have : decide (n < 0) = false := by simp; omega
  rw [this]; rfl
theorem thread_neg {n : Int} (h : n < 0) (hl : -9223372036854775808 ≤ n) : threadI n = -n - 1 := by
  unfold threadI
  have : decide (n < 0) = true := by simp; omega
  rw [this, cond_true, w64_eq (n := n + 1) (by omega) (by omega), w64_eq (by omega) (by omega)]
  omega
theorem flush_pos {n : Int} (h : 0 ≤ n) (hl : n ≤ 9223372036854775807) : flusherI n = -n - 1 := by
  unfold flusherI
  have : decide (n < 0) = false := by simp; omega
  rw [this, cond_false, w64_eq (n := 0 - n) (by omega) (by omega), w64_eq (by omega) (by omega)]
  omega
theorem ag_pos {e : Ev} {n : Int} (hN : Near e) (h0 : 0 ≤ n) (h1 : n < 65536) (h : 0 ≤ e.ag) : (movE e n).ag = e.ag + n := by
  have := hN.hi
  show (bif decide (e.ag ≥ 0) then w64 (e.ag + n) else w64 (e.ag - n)) = _
  have hd : decide (e.ag ≥ 0) = true := by simp; omega
  rw [hd, cond_true, w64_eq (by omega) (by omega)]
theorem ag_neg {e : Ev} {n : Int} (hN : Near e) (h0 : 0 ≤ n) (h1 : n < 65536) (h : e.ag < 0) : (movE e n).ag = e.ag - n := by
  have := hN.lo
  show (bif decide (e.ag ≥ 0) then w64 (e.ag + n) else w64 (e.ag - n)) = _
  have hd : decide (e.ag ≥ 0) = false := by simp; omega
  rw [hd, cond_false, w64_eq (by omega) (by omega)]
theorem thr_mov {e : Ev} {n : Int} (hN : Near e) (h0 : 0 ≤ n) (h1 : n < 65536) : threadI (movE e n).ag = threadI e.ag + n := by
  have a := hN.lo; have b := hN.hi
  by_cases h : 0 ≤ e.ag
  · rw [ag_pos hN h0 h1 h, thread_pos (by omega), thread_pos h]
  · rw [ag_neg hN h0 h1 (by omega), thread_neg (by omega) (by omega), thread_neg (by omega) (by omega)]; omega
theorem mov_lt {e : Ev} {n : Int} (hN : Near e) (h0 : 0 ≤ n) (h1 : n < 65536) : decide ((movE e n).ag < 0) = decide (e.ag < 0) := by
  have a := hN.lo; have b := hN.hi
  by_cases h : 0 ≤ e.ag
  · rw [ag_pos hN h0 h1 h]; simp; omega
  · rw [ag_neg hN h0 h1 (by omega)]; simp; omega
theorem ob_mov {e : Ev} {n : Int} (hN : Near e) (h0 : 0 ≤ n) (h1 : n < 65536) (h : e.k = 16 ∨ e.k = 17) : (movE e n).ob = e.ob + n := by
  have a := hN.ol h; have b := hN.oh
  show (bif e.k == 16 || e.k == 17 then w64 (e.ob + n) else e.ob) = _
  have hd : (e.k == 16 || e.k == 17) = true := by simpa using h
  rw [hd, cond_true, w64_eq (by omega) (by omega)]
theorem ob_same {e : Ev} {n : Int} (h : ¬ (e.k = 16 ∨ e.k = 17)) : (movE e n).ob = e.ob := by
  show (bif e.k == 16 || e.k == 17 then w64 (e.ob + n) else e.ob) = _
  have hd : (e.k == 16 || e.k == 17) = false := by simp; omega
  rw [hd, cond_false]
theorem valid_mov {e : Ev} {n : Int} (hN : Near e) (h0 : 0 ≤ n) (h1 : n < 65536) : validE (movE e n) = validE e := by
  have ho : objE (movE e n) = objE e := by
    by_cases h : e.k = 16 ∨ e.k = 17
    · unfold objE
      rw [ob_mov hN h0 h1 h]
      have a := hN.ol h
      show (bif e.k == 7 then _ else bif e.k == 9 || e.k == 10 || e.k == 11 then _ else bif e.k == 12 || e.k == 13 || e.k == 14 || e.k == 15 then _ else bif e.k == 16 || e.k == 17 then _ else _) = _
      have e1 : (e.k == 7) = false := by simp; omega
      have e2 : (e.k == 9 || e.k == 10 || e.k == 11) = false := by simp; omega
      have e3 : (e.k == 12 || e.k == 13 || e.k == 14 || e.k == 15) = false := by simp; omega
      have e4 : (e.k == 16 || e.k == 17) = true := by simpa using h
      simp only [e1, e2, e3, e4, cond_true, cond_false]
      simp; omega
    · unfold objE
      rw [ob_same h]
      rfl
  unfold validE
  rw [mov_lt hN h0 h1, ho]
  rfl
theorem ag_mov {e d : Ev} {n : Int} (hN : Near e) (hM : Near d) (h0 : 0 ≤ n) (h1 : n < 65536) : ((movE e n).ag == (movE d n).ag) = (e.ag == d.ag) := by
  rw [Bool.eq_iff_iff]
  simp only [beq_iff_eq]
  by_cases h : 0 ≤ e.ag <;> by_cases h' : 0 ≤ d.ag
  · rw [ag_pos hN h0 h1 h, ag_pos hM h0 h1 h']; omega
  · rw [ag_pos hN h0 h1 h, ag_neg hM h0 h1 (by omega)]; omega
  · rw [ag_neg hN h0 h1 (by omega), ag_pos hM h0 h1 h']; omega
  · rw [ag_neg hN h0 h1 (by omega), ag_neg hM h0 h1 (by omega)]; omega
theorem cre_mov {e d : Ev} {n : Int} (hN : Near e) (hM : Near d) (h0 : 0 ≤ n) (h1 : n < 65536) : creE (movE e n) (movE d n) = creE e d := by
  by_cases h : e.k = 16 ∨ e.k = 17
  · unfold creE
    rw [thr_mov hM h0 h1, ob_mov hN h0 h1 h]
    show ((e.k == 16 || e.k == 17) && (_ || (e.k == 16 && d.k == 17 && _))) = _
    rw [Bool.eq_iff_iff]
    by_cases h' : d.k = 17
    · rw [ob_mov hM h0 h1 (Or.inr h')]
      simp only [Bool.and_eq_true, Bool.or_eq_true, beq_iff_eq]
      omega
    · have : (d.k == 17) = false := by simpa using h'
      simp only [this, Bool.and_false, Bool.false_and, Bool.or_false, Bool.and_eq_true, Bool.or_eq_true, beq_iff_eq]
      omega
  · unfold creE
    have : (e.k == 16 || e.k == 17) = false := by simp; omega
    show ((e.k == 16 || e.k == 17) && _) = _
    rw [this]
    rfl
theorem dra_mov {e d : Ev} {n : Int} (hN : Near e) (hM : Near d) (h0 : 0 ≤ n) (h1 : n < 65536) : draE (movE e n) (movE d n) = draE e d := by
  have a := hN.lo; have b := hN.hi
  have hk : (movE e n).k = e.k := rfl
  unfold draE
  rw [hk]
  by_cases h : 0 ≤ e.ag
  · rw [ag_pos hN h0 h1 h, flush_pos (by omega) (by omega), flush_pos h (by omega)]
    have e1 : decide (0 ≤ e.ag + n) = true := by simp; omega
    have e2 : decide (0 ≤ e.ag) = true := by simp; omega
    rw [e1, e2]
    congr 2
    rw [Bool.eq_iff_iff]
    simp only [beq_iff_eq]
    by_cases h' : 0 ≤ d.ag
    · rw [ag_pos hM h0 h1 h']; omega
    · rw [ag_neg hM h0 h1 (by omega)]; omega
  · rw [ag_neg hN h0 h1 (by omega)]
    have e1 : decide (0 ≤ e.ag - n) = false := by simp; omega
    have e2 : decide (0 ≤ e.ag) = false := by simp; omega
    rw [e1, e2]
    rfl
def mvA (n : Int) (x : Ac) : Ac := ⟨x.k, bif x.k == 4 then x.i + n else x.i, x.s, x.w⟩
theorem own_mov {e : Ev} {n : Int} {w : Bool} (hN : Near e) (h0 : 0 ≤ n) (h1 : n < 65536) : own (movE e n) w = mvA n (own e w) := by
  unfold own mvA
  simp only [thr_mov hN h0 h1]
  rfl
theorem acc_mov {e : Ev} {n : Int} (hN : Near e) (h0 : 0 ≤ n) (h1 : n < 65536) : acc (movE e n) = (acc e).map (mvA n) := by
  by_cases h : e.k = 16 ∨ e.k = 17
  · have key : ∀ d : Ev, d.k = 16 ∨ d.k = 17 → acc d = [] := by
      intro d hd
      unfold acc
      rcases hd with hd | hd <;> simp [hd]
    rw [key e h, key (movE e n) h]
    rfl
  · unfold acc
    rw [ob_same h, own_mov hN h0 h1, own_mov hN h0 h1]
    have hk : (movE e n).k = e.k := rfl
    have hen : (movE e n).en = e.en := rfl
    have hmu : (movE e n).mu = e.mu := rfl
    rw [hk, hen, hmu]
    cases (e.k == 1 || e.k == 8)
    · cases (e.k == 6)
      · cases (e.k == 2 || e.k == 5)
        · cases (e.k == 3)
          · cases (e.k == 4)
            · cases (e.k == 9 || e.k == 10 || e.k == 11)
              · cases (e.k == 12)
                · cases (e.k == 13 || e.k == 14 || e.k == 15) <;> rfl
                · rfl
              · rfl
            · rfl
          · rfl
        · rfl
      · rfl
    · cases (decide (e.en ≥ 0)) <;> rfl
theorem hit_mov (n : Int) (x y : Ac) : hit (mvA n x) (mvA n y) = hit x y := by
  unfold hit mvA
  by_cases h : x.k = y.k
  · have : (x.k == y.k) = true := by simpa using h
    simp only [this, Bool.true_and]
    rw [← h]
    cases (x.k == 4)
    · rfl
    · simp only [cond_true]
      congr 2
      rw [Bool.eq_iff_iff]
      simp only [beq_iff_eq]
      omega
  · have : (x.k == y.k) = false := by simpa using h
    simp [this]
theorem conf_mov (n : Int) (l m : List Ac) : conf (l.map (mvA n)) (m.map (mvA n)) = conf l m := by
  unfold conf
  simp only [List.any_map, Function.comp_def, hit_mov]
theorem dep_mov {e d : Ev} {n : Int} (hN : Near e) (hM : Near d) (h0 : 0 ≤ n) (h1 : n < 65536) : depE (movE e n) (movE d n) = depE e d := by
  unfold depE
  rw [valid_mov hN h0 h1, valid_mov hM h0 h1, ag_mov hN hM h0 h1, cre_mov hN hM h0 h1, cre_mov hM hN h0 h1, dra_mov hN hM h0 h1, dra_mov hM hN h0 h1, acc_mov hN h0 h1, acc_mov hM h0 h1, conf_mov]
end Go.Proofs.YtbhopcgbdofcjaaDoor
