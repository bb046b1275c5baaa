/-
  A symbolic executor for the model's code: the condition suffices; functions.
-/
import Derived.Test.YthdmdlipifpbhaaSx10
namespace Go.Proofs.Ythdmdlipifpbhaa.Sx
open Go Go.RowKit

def Ex.toExit : Ex → Exit
  | .normal => .normal
  | .ret => .ret
  | .exit id => .exit id

section
variable {P : Program} {T : Tab} {B : Lim} {w0 : World}

theorem head_ch {L : LAnn} {ws : List Nat} {s : St} {x : L.X} : ∀ (d : Nat) (t : Slot), (head L ws s x).slots[d]? = some t → t.ch = [] := by
  intro d t h
  simp only [head, get_headSlots, Option.map_eq_some_iff, Nat.zero_add] at h
  obtain ⟨s0, _, rfl⟩ := h
  split
  · rfl
  · cases memN d ws
    · simp only [cond_false]; split <;> rfl
    · rfl

theorem vc_sound (hT : TabOk P T) : ∀ (n bid : Nat) (c : Code) (s : St) (K : Ex → St → Prop) (ρ : Env) (a : Act) (W : World) (Q : Exit → Act → World → Prop), vc T n bid c s K → Rel T B w0 ρ s.slots s.mem a W →
    (∀ e s' ρ' a' W', K e s' → Rel T B w0 ρ' s'.slots s'.mem a' W' → Q e.toExit a' W') → c.wp P Q a W := by
  intro n
  induction n with
  | zero => intro _ _ _ _ _ _ _ _ h; exact h.elim
  | succ n ih =>
    intro bid c s K ρ a W Q h hr hQ
    cases c with
    | skip => exact wp_skip (hQ .normal s ρ a W h hr)
    | label l => exact wp_label (hQ .normal s ρ a W h hr)
    | ret => exact wp_ret (hQ .ret s ρ a W h hr)
    | exit id => exact wp_exit (hQ (.exit id) s ρ a W h hr)
    | region id ops draw =>
      simp only [vc] at h
      cases draw with
      | true =>
        simp only [cond_true] at h
        split at h
        · rename_i ps s' hg
          obtain ⟨h1, h2⟩ := conj_iff.1 h
          exact region_draw hT hg h1 hr fun ρ' a' W' hr' => hQ .normal s' ρ' a' W' h2 hr'
        · exact h.elim
      | false =>
        simp only [cond_false] at h
        split at h
        · rename_i ps s' hg
          obtain ⟨h1, h2⟩ := conj_iff.1 h
          exact region_seq hT hg h1 hr fun ρ' a' W' hr' => hQ .normal s' ρ' a' W' h2 hr'
        · exact h.elim
    | seq x y =>
      simp only [vc] at h
      refine wp_seq (ih bid x s _ ρ a W _ h hr fun e s' ρ' a' W' hK hr' => ?_)
      cases e with
      | normal => exact ih bid y s' K ρ' a' W' Q hK hr' hQ
      | ret => exact hQ .ret s' ρ' a' W' hK hr'
      | exit id => exact hQ (.exit id) s' ρ' a' W' hK hr'
    | cond x y z =>
      simp only [vc] at h
      have hcl : ∀ {v : SV}, useOp T s.slots [] x = some v → Den ρ v (a.eval x) := fun hu => useOp_den hr.gl hu (fun t st _ hn hsat => by rw [nth_eq] at hn; exact (hr.fr.ok t st hn).1 hsat) (fun q w hq => by cases hq)
      have hre : ∀ (v : SV), Den ρ v (a.eval x) → Rel T B w0 ρ (refine s.slots x v) s.mem a W := fun v hv => by
        cases x <;> simp only [refine] <;> try exact hr
        rename_i t
        refine ⟨⟨by rw [length_setAt]; exact hr.fr.len, fun d t' ht' => ?_⟩, hr.mr, hr.gl, hr.df⟩
        rw [get_setAt] at ht'
        split at ht'
        · rename_i hd
          simp only [Option.some.injEq] at ht'
          subst ht'
          obtain ⟨rfl, _⟩ := hd
          exact ⟨fun _ => hv, fun hn => absurd (fun q w hq => by cases hq) hn⟩
        · exact hr.fr.ok d t' ht'
      split at h
      · rename_i hu
        exact wp_cond_true (hcl hu).tt_inv (ih bid y s K ρ a W Q h hr hQ)
      · rename_i hu
        exact wp_cond_false (hcl hu).ff_inv (ih bid z s K ρ a W Q h hr hQ)
      · rename_i t hu
        have hv := (hcl hu).b_inv
        refine wp_cond_split hv (fun ht => ?_) (fun ht => ?_)
        · subst ht
          exact ih bid y _ K ρ a W Q (h.1 rfl) (hre .tt (by rw [hv]; exact .tt)) hQ
        · subst ht
          exact ih bid z _ K ρ a W Q (h.2 rfl) (hre .ff (by rw [hv]; exact .ff)) hQ
      · exact h.elim
    | block id body =>
      simp only [vc] at h
      refine wp_block (ih id body s _ ρ a W _ h hr fun e s' ρ' a' W' hK hr' => ?_)
      cases e with
      | normal => exact hQ .normal s' ρ' a' W' hK hr'
      | ret => exact hQ .ret s' ρ' a' W' hK hr'
      | exit id' =>
        simp only [Ex.toExit, Exit.inBlock]
        simp only at hK
        by_cases e : id' = id
        · subst e
          rw [if_pos rfl]
          rw [Nat.beq_refl, cond_true] at hK
          exact hQ .normal s' ρ' a' W' hK hr'
        · rw [if_neg e]
          have : Nat.beq id' id = false := Bool.eq_false_iff.2 fun hb => e (Nat.eq_of_beq_eq_true hb)
          rw [this, cond_false] at hK
          exact hQ (.exit id') s' ρ' a' W' hK hr'
    | scope body =>
      simp only [vc] at h
      refine wp_scope_straight (ih bid body s _ ρ a W _ h hr fun e s' ρ' a' W' hK hr' => ?_)
      cases e with
      | normal => exact hQ .normal s' ρ' a' W' hK hr'
      | ret => exact hQ .ret s' ρ' a' W' hK hr'
      | exit id => exact hQ (.exit id) s' ρ' a' W' hK hr'
    | loop body =>
      simp only [vc] at h
      split at h
      · rename_i PL hL
        obtain ⟨y, ⟨x, hx, he1, he2⟩, hbody⟩ := h
        generalize PL.ann y = L at *
        obtain ⟨ρ1, hr1⟩ := rel_ren (ps := L.ren) hr
        generalize renAll T.globals L.ren s = s1 at *
        have hG : ∀ g r, assoc T.globals g = some r → ∀ x : L.X, r < (head L (writes body) s1 x).mem.length := fun g r hg x => by
          obtain ⟨c, hc⟩ := hr1.gl g r hg
          simp only [head, length_headMem]
          exact hr1.mr.dom r (by rw [hc]; simp)
        have rounds : ∀ (k : Nat) (x : L.X) (ρ : Env) (a : Act) (W : World), L.mu x < k → L.inv x → Rel T B w0 ρ (head L (writes body) s1 x).slots (head L (writes body) s1 x).mem a W → Code.rounds P body Q k a W := by
          intro k
          induction k with
          | zero => intro x _ _ _ hlt; omega
          | succ k ihk =>
            intro x ρ a W hlt hix hrx
            have hb := hbody x hix
            cases hok : headOk (head L (writes body) s1 x)
            · simp [hok] at hb
            · simp only [hok, cond_true] at hb
              rw [rounds_succ]
              refine ih bid body _ _ ρ a W _ hb hrx fun e s' ρ' a' W' hK hr' => ?_
              cases e with
              | normal =>
                simp only [Ex.toExit, Exit.then]
                simp only at hK
                obtain ⟨x', hix', hmu, hs1, hs2⟩ := hK
                have hb' := hbody x' hix'
                cases hok' : headOk (head L (writes body) s1 x')
                · simp [hok'] at hb'
                · obtain ⟨ρ2, hr2⟩ := rel_ren (ps := L.ren) hr'
                  obtain ⟨σ, hσ⟩ := rel_back (fun g r hg => hG g r hg x') head_ch hr2 hs1 hs2 hok'
                  exact ihk x' σ a' W' (by omega) hix' hσ
              | ret => exact hQ .ret s' ρ' a' W' hK hr'
              | exit id => exact hQ (.exit id) s' ρ' a' W' hK hr'
        exact wp_loop_rounds _ (rounds (L.mu x + 1) x ρ1 a W (by omega) hx (rel_enter hr1 he1 he2))
      · exact h.elim
    | _ => exact h.elim

/-! ### Functions -/

theorem padS_get : ∀ (n d : Nat) (s : Slot), (padS n)[d]? = some s → s = ⟨[], .dead⟩ := by
  intro n
  induction n with
  | zero => intro d s h; simp [padS] at h
  | succ n ih =>
    intro d s h
    cases d with
    | zero => simp [padS] at h; exact h.symm
    | succ d => exact ih d s (by simpa [padS] using h)
theorem padS_len : ∀ (n : Nat), (padS n).length = n := by
  intro n
  induction n with
  | zero => rfl
  | succ n ih => simp [padS, ih]
theorem initSlots_get : ∀ (vs : List SV) (n d : Nat) (s : Slot), (initSlots vs n)[d]? = some s → s.ch = [] ∧ ((∃ v, vs[d]? = some v ∧ s.sv = v) ∨ s.sv = .dead) := by
  intro vs
  induction vs with
  | nil =>
    intro n d s h
    have := padS_get n d s h
    subst this
    exact ⟨rfl, .inr rfl⟩
  | cons x r ih =>
    intro n d s h
    cases d with
    | zero => simp [initSlots] at h; subst h; exact ⟨rfl, .inl ⟨x, rfl, rfl⟩⟩
    | succ d => exact ih (n - 1) d s (by simpa [initSlots] using h)
theorem initSlots_len : ∀ (vs : List SV) (n : Nat), (initSlots vs n).length = vs.length + (n - vs.length) := by
  intro vs
  induction vs with
  | nil => intro n; simp [initSlots, padS_len]
  | cons x r ih => intro n; simp [initSlots, ih]; omega

/-- One result's run. -/
def resRun (tmps : Array Value) : ResultVar → Sem Value
  | .tmp t => pure (tmps.getD t undef)
  | .cell a t => do loadVar t (← asAddr (tmps.getD a undef))
theorem resOne_den {rv : ResultVar} {sl : List Slot} {ρ : Env} {a : Act} {m : List MBlk} {W : World} (hT : TabOk P T) (hr : Rel T B w0 ρ sl m a W) {sv : SV} (h : resOne T sl m rv = some sv) : ∃ v, (resRun a.tmps rv).run P W = .ok v W ∧ Den ρ sv v := by
  have hu : ∀ {t : Nat} {v : SV}, useOp T sl [] (.tmp t) = some v → Den ρ v (a.tmps.getD t undef) := fun hu => useOp_den hr.gl hu (fun t st _ hn hsat => by rw [nth_eq] at hn; exact (hr.fr.ok t st hn).1 hsat) (fun q w hq => by cases hq)
  cases rv with
  | tmp t => exact ⟨_, rfl, hu h⟩
  | cell t ty =>
    simp only [resOne] at h
    split at h
    · rename_i ti r off hti hv
      split at h
      · rename_i cs hm
        obtain ⟨b, k, hb, e⟩ := (hu hv).ptr_inv
        obtain ⟨g, ty', vs, k', h1, _, h3, h4⟩ := hr.mr.blk r _ (nthM hm) (by rw [hb]; simp)
        rw [hb] at h1
        simp only [Option.some.injEq, Prod.mk.injEq] at h1
        obtain ⟨rfl, _⟩ := h1
        obtain ⟨u, hu1, hd⟩ := load_cells (W := W) (b := ⟨g, 0, none⟩) (hT.types ty ti hti) h fun j x hx => by
          obtain ⟨u, hu, hd⟩ := h4.get hx
          refine ⟨u, ?_, hd⟩
          have : (Addr.add ⟨g, 0, none⟩ j) = ⟨g, j, none⟩ := by unfold Addr.add; split <;> simp_all
          rw [this, cell_of_row W g j vs.toArray ty' (0, 0) h3]
          simpa using hu
        refine ⟨u, ?_, hd⟩
        have e2 : a.tmps.getD t undef = .pointer (some (Addr.add ⟨g, 0, none⟩ off)) := e
        simp only [resRun, e2]
        simp [asAddr, hu1]
      · cases h
    · cases h

theorem results_eq (fn : Func) (tmps : Array Value) : results fn tmps = (do let vs ← fn.results.mapM (resRun tmps); pure (if h : vs.size = 1 then vs[0] else .tuple vs)) := rfl

theorem retSV_den {fn : Func} {sl : List Slot} {ρ : Env} {a : Act} {m : List MBlk} {W : World} (hT : TabOk P T) (hr : Rel T B w0 ρ sl m a W) {sv : SV} (h : retSV T sl m fn.results.toList = some sv) : ∃ v, (results fn a.tmps).run P W = .ok v W ∧ Den ρ sv v := by
  have ha : ∀ {l : List ResultVar}, fn.results.toList = l → fn.results = l.toArray := fun h => by rw [← h]
  rw [results_eq]
  unfold retSV at h
  split at h
  · rename_i he
    simp only [Option.some.injEq] at h
    subst h
    exact ⟨.tuple #[], by simp [ha he], .tup (vs := []) rfl (fun j x v hx => by simp at hx)⟩
  · rename_i t he
    obtain ⟨v, h1, h2⟩ := resOne_den hT hr h
    exact ⟨v, by simp [ha he, h1], h2⟩
  · rename_i t u he
    split at h
    · rename_i x y hx hy
      simp only [Option.some.injEq] at h
      subst h
      obtain ⟨v, h1, h2⟩ := resOne_den hT hr hx
      obtain ⟨v', h1', h2'⟩ := resOne_den hT hr hy
      have := DenL.cons h2 (DenL.cons h2' (DenL.nil ρ))
      exact ⟨.tuple #[v, v'], by simp [ha he, h1, h1'], .tup this.1 this.2⟩
    · cases h
  · rename_i t u w he
    split at h
    · rename_i x y z hx hy hz
      simp only [Option.some.injEq] at h
      subst h
      obtain ⟨v, h1, h2⟩ := resOne_den hT hr hx
      obtain ⟨v', h1', h2'⟩ := resOne_den hT hr hy
      obtain ⟨v'', h1'', h2''⟩ := resOne_den hT hr hz
      have := DenL.cons h2 (DenL.cons h2' (DenL.cons h2'' (DenL.nil ρ)))
      exact ⟨.tuple #[v, v', v''], by simp [ha he, h1, h1', h1''], .tup this.1 this.2⟩
    · cases h
  · cases h

/-- A function's body in its own frame. -/
theorem fn_calls {f : FuncId} {fn : Func} {vs : List SV} {xs : List Value} {m : List MBlk} {ρ : Env} {W : World} {R : SV → List MBlk → Prop} (hT : TabOk P T) (hf : P.funcs[f]? = some fn) (hv : fnVc T fn vs m R) (hm : MR B w0 W ρ m) (hG : GlobOk T ρ) (hd : DenL ρ vs xs) :
    Calls P f xs.toArray W (fun e W' => ∃ v ρ' m' sv, e = .returned v ∧ Den ρ' sv v ∧ MR B w0 W' ρ' m' ∧ R sv m') := by
  unfold fnVc at hv
  split at hv
  · rename_i c hc
    refine calls_of_wp hf hc (vc_sound hT _ _ _ _ _ ρ _ W _ hv ⟨⟨?_, fun d s hs => ?_⟩, hm, hG, rfl⟩ fun e s' ρ' a' W' hK hr' => ?_)
    · simp only [initSlots_len, Array.size_append, Array.size_replicate, List.size_toArray, hd.1]
    · obtain ⟨h1, h2⟩ := initSlots_get _ _ _ _ hs
      refine ⟨fun _ => ?_, fun hn => absurd (fun q w hq => by rw [h1] at hq; cases hq) hn⟩
      rcases h2 with ⟨v, hv1, hv2⟩ | h2
      · obtain ⟨w, hw, hdw⟩ := hd.get hv1
        have hlt := (List.getElem?_eq_some_iff.1 hw).1
        rw [hv2]
        have : ((xs.toArray ++ Array.replicate (fn.ntmps - xs.toArray.size) undef).getD d undef) = w := by
          rw [Array.getD_eq_getD_getElem?, Array.getElem?_append_left (by simpa using hlt)]
          simp [hw]
        rw [this]
        exact hdw
      · rw [h2]; exact .dead _
    · have key : retK T fn.results.toList R .ret s' → ∃ v, (results fn a'.tmps).run P W' = .ok v W' ∧ ∃ v' ρ' m' sv, Ending.returned v = .returned v' ∧ Den ρ' sv v' ∧ MR B w0 W' ρ' m' ∧ R sv m' := fun hK => by
        simp only [retK] at hK
        split at hK
        · rename_i sv hsv
          obtain ⟨v, h1, h2⟩ := retSV_den hT hr' hsv
          exact ⟨v, h1, v, ρ', s'.mem, sv, rfl, h2, hr'.mr, hK⟩
        · exact hK.elim
      cases e with
      | exit id => exact hK.elim
      | normal => exact ⟨hr'.df, key hK⟩
      | ret => exact ⟨hr'.df, key hK⟩
  · exact hv.elim
end
end Go.Proofs.Ythdmdlipifpbhaa.Sx
