/-
  The linext layer: relations: contracts, successors.
-/
import Derived.Test.YtiokmglajigngaaU2
namespace Go.Proofs.Ytiokmglajigngaa
open Go Go.Proofs.Ytiokmglajigngaa.Sx
set_option maxRecDepth 100000
set_option linter.unusedSimpArgs false
set_option linter.unusedVariables false
theorem okT {fid : FuncId} {fn : Func} {ks : List AK} {S : List AV → Option (List Prop × RV)} (hfn : Try.prog.funcs[fid]? = some fn) (hok : fnOk Try.prog fid) (T : List AV → Tab) (hT : ∀ av, TabOk Try.prog (T av)) (hg : ∀ av, (T av).globals = [] ∧ (T av).pins = [])
    (hres : ∀ av pre rv, S av = some (pre, rv) → rv.ok = true ∧ (∀ t a, rv = .sl t a → a.cols ≠ []))
    (hv : ∀ av pre rv, S av = some (pre, rv) → (∀ p ∈ pre, p) → fnVc (T av) fn (lcVs 0 av) (lcMem av) (rv.post EL)) : CallOk Try.prog [] fid (genF EL [] ks S) :=
  genOk hfn hok hres fun av pre rv h hp => ⟨_, hT av, (hg av).1, (hg av).2, hv av pre rv h hp⟩
theorem fo37 : fnOk Try.prog 37 := ⟨Try.f37, Try.func37, by kernel_rfl, by kernel_rfl⟩
theorem fo27 : fnOk Try.prog 27 := ⟨Try.f27, Try.func27, by kernel_rfl, by kernel_rfl⟩
theorem fo56 : fnOk Try.prog 56 := ⟨Try.f56, Try.func56, by kernel_rfl, by kernel_rfl⟩
theorem fo55 : fnOk Try.prog 55 := ⟨Try.f55, Try.func55, by kernel_rfl, by kernel_rfl⟩
theorem fo51 : fnOk Try.prog 51 := ⟨Try.f51, Try.func51, by kernel_rfl, by kernel_rfl⟩
def t37 : List AV → Tab
  | [.r N l] => tab [] [(0, .of (lVal N l 16))]
  | _ => tab [] []
theorem c37 : CallOk Try.prog [] 37 (genF EL [] [.r] sVal) := by
  refine okT (fn := Try.f37) Try.func37 fo37 t37 (fun av => ?_) (fun av => ?_) (fun av pre rv h => ?_) (fun av pre rv h hp => ?_)
  · unfold t37; split <;> first | exact tabOk mNil | exact tabOk mNil
  · unfold t37; split <;> exact ⟨rfl, rfl⟩
  · unfold sVal at h; split at h <;> cases h
    exact ⟨rfl, fun t a e => by cases e <;> exact List.cons_ne_nil _ _⟩
  · unfold sVal at h; split at h <;> cases h
    exact v37 _ _ (hp _ (.head _))
theorem n37 (nm : List (Option AV)) : CallOk Try.prog [] 37 (genF EL nm [.r] sVal) := genNm c37
def t27 : List AV → Tab
  | [.r N l] => tab [] [(0, .of (lVal N l 3))]
  | _ => tab [] []
theorem c27 : CallOk Try.prog [] 27 (genF EL [] [.r] sVal) := by
  refine okT (fn := Try.f27) Try.func27 fo27 t27 (fun av => ?_) (fun av => ?_) (fun av pre rv h => ?_) (fun av pre rv h hp => ?_)
  · unfold t27; split <;> first | exact tabOk mNil | exact tabOk mNil
  · unfold t27; split <;> exact ⟨rfl, rfl⟩
  · unfold sVal at h; split at h <;> cases h
    exact ⟨rfl, fun t a e => by cases e <;> exact List.cons_ne_nil _ _⟩
  · unfold sVal at h; split at h <;> cases h
    exact v27 _ _ (hp _ (.head _))
theorem n27 (nm : List (Option AV)) : CallOk Try.prog [] 27 (genF EL nm [.r] sVal) := genNm c27
def t56 : List AV → Tab
  | [.r N l] => tab [] [(0, .of (lSet l 10 2))]
  | _ => tab [] []
theorem c56 : CallOk Try.prog [] 56 (genF EL [] [.r] sSet) := by
  refine okT (fn := Try.f56) Try.func56 fo56 t56 (fun av => ?_) (fun av => ?_) (fun av pre rv h => ?_) (fun av pre rv h hp => ?_)
  · unfold t56; split <;> first | exact tabOk mNil | exact tabOk mNil
  · unfold t56; split <;> exact ⟨rfl, rfl⟩
  · unfold sSet at h; split at h <;> cases h
    exact ⟨rfl, fun t a e => by cases e <;> exact List.cons_ne_nil _ _⟩
  · unfold sSet at h; split at h <;> cases h
    exact v56 _ _ (hp _ (.head _))
theorem n56 (nm : List (Option AV)) : CallOk Try.prog [] 56 (genF EL nm [.r] sSet) := genNm c56
def t55 : List AV → Tab
  | [.i n, .mp f] => tabG [] [(0, .of (lOut n f 11)), (2, lInn n f 15)] 2 [.fresh 2 1 40 2]
  | _ => tab [] []
theorem c55 : CallOk Try.prog [] 55 (genF EL [] [.i, .mp] sNor) := by
  refine okT (fn := Try.f55) Try.func55 fo55 t55 (fun av => ?_) (fun av => ?_) (fun av pre rv h => ?_) (fun av pre rv h hp => ?_)
  · unfold t55; split <;> first | exact tabGOk mNil | exact tabOk mNil
  · unfold t55; split <;> exact ⟨rfl, rfl⟩
  · unfold sNor at h; split at h <;> cases h
    exact ⟨rfl, fun t a e => by cases e <;> exact List.cons_ne_nil _ _⟩
  · unfold sNor at h; split at h <;> cases h
    exact v55 _ _ (hp _ (.head _))
theorem n55 (nm : List (Option AV)) : CallOk Try.prog [] 55 (genF EL nm [.i, .mp] sNor) := genNm c55
def t51 : List AV → Tab
  | [.r N l] => tab [] [(0, .of (lTbl N l 4 3))]
  | _ => tab [] []
theorem c51 : CallOk Try.prog [] 51 (genF EL [] [.r] sTbl) := by
  refine okT (fn := Try.f51) Try.func51 fo51 t51 (fun av => ?_) (fun av => ?_) (fun av pre rv h => ?_) (fun av pre rv h hp => ?_)
  · unfold t51; split <;> first | exact tabOk mNil | exact tabOk mNil
  · unfold t51; split <;> exact ⟨rfl, rfl⟩
  · unfold sTbl at h; split at h <;> cases h
    exact ⟨rfl, fun t a e => by cases e <;> exact List.cons_ne_nil _ _⟩
  · unfold sTbl at h; split at h <;> cases h
    exact v51 _ _ (hp _ (.head _)) (hp _ (.tail _ (.head _)))
theorem n51 (nm : List (Option AV)) : CallOk Try.prog [] 51 (genF EL nm [.r] sTbl) := genNm c51
/-- The second places of the pairs with the first place a. -/
def secs (P : List Pq) (a : Nat) : List Int := (P.filter (fun p => p.1 == (a : Int))).map (·.2)
def rowsOf (n : Nat) (P : List Pq) : List (List Int) := mkN (secs P) n
def sucL (n : Nat) (f : Pf) : List (List Int) := mkN (fun a => (rowL f a n).map (·.2)) n
def orw (n : Nat) (R : List (List Int)) : MBlk := .orows 25 3 n none none (fun j => (nthD [] R j).length) [fun j i => nthD 0 (nthD [] R j) i]
def lSuc (N : Int) (P : List Pq) (t e : Nat) : LAnn := lCnt P.length t (fun _ => True) (fun i => [(e, orw N.toNat (rowsOf N.toNat (P.take i)))]) []
def tabK (calls : Calling) (loops : List (Nat × PLoop)) (id : Nat) (g : List MBlk → List Gh) : Tab := ⟨tyTab, [], calls, loops, [], [], [(id, fun _ m => g m)], []⟩
theorem tabKOk {calls : Calling} {loops : List (Nat × PLoop)} {id : Nat} {g : List MBlk → List Gh} (h : ∀ p ∈ calls, CallOk Try.prog [] p.1 p.2) : TabOk Try.prog (tabK calls loops id g) := ⟨mixed, tys, ints, fun _ _ hf => h _ (assoc_mem hf), fun _ _ hf => by cases hf⟩
def tkRow (box out : Nat) : List MBlk → List Gh := fun m => match nth m box with
  | some (.cells (.i _ a :: _)) => [.take out a.toNat]
  | _ => []
def sSuc : Sp := fun | [.r N l] => some ([validF N l = true, L9 l], .sl (fun k => .sl 0 k) (.rs (sucL N.toNat (setF l)))) | _ => none
def kSuc (nm : List (Option AV)) : Nat × (List MBlk → List SV → Option AR) := (53, genF EL nm [.r] sSuc)
theorem nthD_rows {n a : Nat} {P : List Pq} (h : a < n) : nthD [] (rowsOf n P) a = secs P a := nthD_mkN _ _ h
theorem secs_app {P Q : List Pq} {a : Nat} : secs (P ++ Q) a = secs P a ++ secs Q a := by simp [secs]
theorem secs_take {P : List Pq} {i : Nat} (h : i < P.length) (a : Nat) : secs (P.take (i + 1)) a = secs (P.take i) a ++ (if (nthD (0, 0) P i).1 = (a : Int) then [(nthD (0, 0) P i).2] else []) := by
  rw [take_succ' (0, 0) h, secs_app]
  congr 1
  by_cases e : (nthD (0, 0) P i).1 = (a : Int) <;> simp [secs, e]
theorem secs_row {f : Pf} {a b k : Nat} : secs (rowL f b k) a = if a = b then (rowL f a k).map (·.2) else [] := by
  by_cases e : a = b
  · subst e
    rw [if_pos rfl, secs, List.filter_eq_self.2]
    intro p hp
    obtain ⟨_, _, _, rfl⟩ := mem_rowL.1 hp
    simp
  · rw [if_neg e, secs, List.filter_eq_nil_iff.2]
    · rfl
    · intro p hp
      obtain ⟨_, _, _, rfl⟩ := mem_rowL.1 hp
      simp only [beq_iff_eq]
      omega
theorem secs_all {f : Pf} {n a : Nat} : ∀ k, secs (allL f n k) a = if a < k then (rowL f a n).map (·.2) else [] := by
  intro k
  induction k with
  | zero => simp [allL_zero, secs]
  | succ k ih =>
    rw [allL_succ, secs_app, ih, secs_row]
    by_cases h1 : a < k
    · rw [if_pos h1, if_neg (by omega), if_pos (by omega), List.append_nil]
    · rw [if_neg h1]
      by_cases h2 : a = k
      · rw [if_pos h2, if_pos (by omega)]; rfl
      · rw [if_neg h2, if_neg (by omega)]; rfl
@[simp] theorem sucL_len (n : Nat) (f : Pf) : (sucL n f).length = n := mkN_len _ _
theorem nthD_sucL {n a : Nat} {f : Pf} (h : a < n) : nthD [] (sucL n f) a = (rowL f a n).map (·.2) := nthD_mkN _ _ h
theorem rows_norm {N : Int} {f : Pf} {j : Nat} (h : j < N.toNat) : nthD [] (rowsOf N.toNat (normL N f)) j = nthD [] (sucL N.toNat f) j := by
  rw [nthD_rows h, nthD_sucL h, normL, secs_all, if_pos h]
theorem norm_len {N : Int} {f : Pf} (h : N ≤ 64) : (normL N f).length ≤ 4096 := Nat.le_trans (allL_len f _ _) (sq_le (by omega))
theorem secs_len {P : List Pq} {a : Nat} : (secs P a).length ≤ P.length := by
  rw [secs, List.length_map]; exact List.length_filter_le _ _
theorem v53_eq (N : Int) (l : List Pq) : (fnVc (tabK [kSet [], kNor [none, none, none, none, some (.mp (setF l)), some (.ps (normL N (setF l)))]] [(0, .of (lSuc N (normL N (setF l)) 16 3))] 5 (tkRow 6 3)) Try.f53 [rlV N 0 l] [arP l] (resIs (.sl 0 (sucL N.toNat (setF l)).length) 25 (sucL N.toNat (setF l)).length (rsCols (sucL N.toNat (setF l))))) = ((0 : Int) ≤ N ∧
 N = N ∧
 (↑(24 : Nat) : Int) * N ≤ (281474976710656 : Int) ∧
 N ≤ (9223372036854775807 : Int) ∧
 l.length = l.length ∧
 (mkN (fun (j : Nat) => ((nthD ((0 : Int), (0 : Int)) l j).fst, (nthD ((0 : Int), (0 : Int)) l j).snd))
 l.length).length ≤
 (1099511627776 : Nat) ∧
 setF
 (mkN (fun (j : Nat) => ((nthD ((0 : Int), (0 : Int)) l j).fst, (nthD ((0 : Int), (0 : Int)) l j).snd))
 l.length) =
 setF l ∧
 ((0 : Int) ≤ N ∧ N ≤ (64 : Int)) ∧
 normL N (setF l) = normL N (setF l) ∧
 ∃ (x : PUnit),
 (∃ (x : Nat),
 (x ≤ (normL N (setF l)).length ∧ True) ∧
 ((0 : Int) = (↑x : Int) ∧ True) ∧
 (N.toNat = N.toNat ∧
 (∀ (j : Nat),
 j < N.toNat →
 (0 : Nat) =
 (nthD [] (rowsOf N.toNat (List.take x (normL N (setF l)))) j).length) ∧
 (∀ (j : Nat),
 j < N.toNat →
 ∀ (i : Nat),
 i < (nthD [] (rowsOf N.toNat (List.take x (normL N (setF l)))) j).length →
 (0 : Int) =
 nthD (0 : Int)
 (nthD [] (rowsOf N.toNat (List.take x (normL N (setF l)))) j) i) ∧
 True) ∧
 True) ∧
 ∀ (x_1 : Nat),
 x_1 ≤ (normL N (setF l)).length ∧ True →
 (decide ((↑x_1 : Int) < (↑(AV.ps (normL N (setF l))).len : Int)) = true →
 ((0 : Int) ≤ (↑x_1 : Int) ∧ (↑x_1 : Int) < (↑(AV.ps (normL N (setF l))).len : Int)) ∧
 x_1 < (AV.ps (normL N (setF l))).len ∧
 (nthD ((0 : Int), (0 : Int)) (normL N (setF l)) x_1).fst.toNat < N.toNat ∧
 ((0 : Int) ≤ (nthD ((0 : Int), (0 : Int)) (normL N (setF l)) x_1).fst ∧
 (nthD ((0 : Int), (0 : Int)) (normL N (setF l)) x_1).fst < (↑N.toNat : Int)) ∧
 (nthD ((0 : Int), (0 : Int)) (normL N (setF l)) x_1).fst.toNat < N.toNat ∧
 (nthD ((0 : Int), (0 : Int)) (normL N (setF l)) x_1).fst.toNat =
 (nthD ((0 : Int), (0 : Int)) (normL N (setF l)) x_1).fst.toNat ∧
 (nthD [] (rowsOf N.toNat (List.take x_1 (normL N (setF l))))
 (nthD ((0 : Int), (0 : Int)) (normL N (setF l))
 x_1).fst.toNat).length =
 (nthD [] (rowsOf N.toNat (List.take x_1 (normL N (setF l))))
 (nthD ((0 : Int), (0 : Int)) (normL N (setF l))
 x_1).fst.toNat).length ∧
 (1 : Nat) = (1 : Nat) ∧
 ((nthD [] (rowsOf N.toNat (List.take x_1 (normL N (setF l))))
 (nthD ((0 : Int), (0 : Int)) (normL N (setF l))
 x_1).fst.toNat).length +
 (1 : Nat)) *
 (8 : Nat) ≤
 (140737488355328 : Nat) ∧
 (nthD [] (rowsOf N.toNat (List.take x_1 (normL N (setF l))))
 (nthD ((0 : Int), (0 : Int)) (normL N (setF l))
 x_1).fst.toNat).length +
 (1 : Nat) ≤
 (9223372036854775807 : Nat) ∧
 ((0 : Int) ≤
 (nthD ((0 : Int), (0 : Int)) (normL N (setF l)) x_1).fst ∧
 (nthD ((0 : Int), (0 : Int)) (normL N (setF l)) x_1).fst <
 (↑N.toNat : Int)) ∧
 (nthD ((0 : Int), (0 : Int)) (normL N (setF l)) x_1).fst.toNat <
 N.toNat ∧
 (nthD ((0 : Int), (0 : Int)) (normL N (setF l)) x_1).fst.toNat =
 (nthD ((0 : Int), (0 : Int)) (normL N (setF l))
 x_1).fst.toNat ∧
 (nthD [] (rowsOf N.toNat (List.take x_1 (normL N (setF l))))
 (nthD ((0 : Int), (0 : Int)) (normL N (setF l))
 x_1).fst.toNat).length +
 (1 : Nat) =
 (nthD [] (rowsOf N.toNat (List.take x_1 (normL N (setF l))))
 (nthD ((0 : Int), (0 : Int)) (normL N (setF l))
 x_1).fst.toNat).length +
 (1 : Nat) ∧
 ∃ (x_2 : Nat),
 (x_2 ≤ (normL N (setF l)).length ∧ True) ∧
 ((PLoop.of
 (lSuc N (normL N (setF l)) (16 : Nat)
 (3 : Nat))).ann
 x).mu
 x_2 <
 ((PLoop.of
 (lSuc N (normL N (setF l)) (16 : Nat)
 (3 : Nat))).ann
 x).mu
 x_1 ∧
 ((N = N ∧ l.length = l.length) ∧
 True ∧
 (0 : Nat) = (0 : Nat) ∧
 N.toNat = N.toNat ∧
 True ∧
 N = N ∧
 N.toNat = N.toNat ∧
 True ∧
 N = N ∧
 (N = N ∧ l.length = l.length) ∧
 True ∧
 (N = N ∧
 (AV.ps
 (normL N
 (setF l))).len =
 (AV.ps
 (normL N
 (setF l))).len) ∧
 (AV.ps
 (normL N
 (setF l))).len =
 (AV.ps
 (normL N
 (setF l))).len ∧
 (↑(AV.ps
 (normL N
 (setF
 l))).len :
 Int) =
 (↑(AV.ps
 (normL N
 (setF
 l))).len :
 Int) ∧
 IntKind.i64.wrap
 ((↑x_1 : Int) +
 (1 : Int)) =
 (↑x_2 : Int) ∧
 True) ∧
 (l.length = l.length ∧
 (∀ (j : Nat),
 j < l.length →
 (nthD ((0 : Int), (0 : Int)) l j).fst =
 (nthD ((0 : Int), (0 : Int)) l j).fst) ∧
 (∀ (j : Nat),
 j < l.length →
 (nthD ((0 : Int), (0 : Int)) l j).snd =
 (nthD ((0 : Int), (0 : Int)) l j).snd) ∧
 True) ∧
 (N = N ∧ l.length = l.length) ∧
 ((0 : Nat) = (0 : Nat) ∧ True ∧ True) ∧
 (N.toNat = N.toNat ∧
 (∀ (j : Nat),
 j < N.toNat →
 (bif
 j.beq
 (nthD ((0 : Int), (0 : Int))
 (normL N (setF l))
 x_1).fst.toNat then
 (nthD []
 (rowsOf N.toNat
 (List.take x_1
 (normL N (setF l))))
 (nthD ((0 : Int), (0 : Int))
 (normL N (setF l))
 x_1).fst.toNat).length +
 (1 : Nat)
 else
 (nthD []
 (rowsOf N.toNat
 (List.take x_1
 (normL N (setF l))))
 j).length) =
 (nthD []
 (rowsOf N.toNat
 (List.take x_2
 (normL N (setF l))))
 j).length) ∧
 (∀ (j : Nat),
 j < N.toNat →
 ∀ (i : Nat),
 i <
 (nthD []
 (rowsOf N.toNat
 (List.take x_2
 (normL N (setF l))))
 j).length →
 (bif
 j.beq
 (nthD
 ((0 : Int),
 (0 : Int))
 (normL N
 (setF l))
 x_1).fst.toNat then
 fun (j : Nat) =>
 bif
 j.blt
 (nthD []
 (rowsOf N.toNat
 (List.take x_1
 (normL N
 (setF
 l))))
 (nthD
 ((0 :
 Int),
 (0 :
 Int))
 (normL N
 (setF
 l))
 x_1).fst.toNat).length then
 nthD (0 : Int)
 (nthD []
 (rowsOf N.toNat
 (List.take x_1
 (normL N
 (setF l))))
 (nthD
 ((0 : Int),
 (0 : Int))
 (normL N
 (setF l))
 x_1).fst.toNat)
 j
 else
 pickI
 [(nthD
 ((0 : Int),
 (0 : Int))
 (normL N
 (setF l))
 x_1).snd]
 (j -
 (nthD []
 (rowsOf N.toNat
 (List.take x_1
 (normL N
 (setF
 l))))
 (nthD
 ((0 :
 Int),
 (0 :
 Int))
 (normL N
 (setF
 l))
 x_1).fst.toNat).length)
 else fun (i : Nat) =>
 nthD (0 : Int)
 (nthD []
 (rowsOf N.toNat
 (List.take x_1
 (normL N
 (setF l))))
 j)
 i)
 i =
 nthD (0 : Int)
 (nthD []
 (rowsOf N.toNat
 (List.take x_2
 (normL N (setF l))))
 j)
 i) ∧
 True) ∧
 (∀ (x y : Int),
 setF
 (mkN
 (fun (j : Nat) =>
 ((nthD ((0 : Int), (0 : Int)) l
 j).fst,
 (nthD ((0 : Int), (0 : Int)) l
 j).snd))
 l.length)
 x y =
 setF
 (mkN
 (fun (j : Nat) =>
 ((nthD ((0 : Int), (0 : Int)) l
 j).fst,
 (nthD ((0 : Int), (0 : Int)) l
 j).snd))
 l.length)
 x y) ∧
 ((AV.ps (normL N (setF l))).len =
 (AV.ps (normL N (setF l))).len ∧
 (∀ (j : Nat),
 j < (AV.ps (normL N (setF l))).len →
 (nthD ((0 : Int), (0 : Int))
 (normL N (setF l)) j).fst =
 (nthD ((0 : Int), (0 : Int))
 (normL N (setF l)) j).fst) ∧
 (∀ (j : Nat),
 j <
 (AV.ps
 (normL N (setF l))).len →
 (nthD ((0 : Int), (0 : Int))
 (normL N (setF l))
 j).snd =
 (nthD ((0 : Int), (0 : Int))
 (normL N (setF l))
 j).snd) ∧
 True) ∧
 True) ∧
 (decide ((↑x_1 : Int) < (↑(AV.ps (normL N (setF l))).len : Int)) = false →
 N.toNat = (sucL N.toNat (setF l)).length ∧
 (((∀ (j : Nat),
 j < (sucL N.toNat (setF l)).length →
 (nthD [] (rowsOf N.toNat (List.take x_1 (normL N (setF l)))) j).length =
 (nthD [] (sucL N.toNat (setF l)) j).length) ∧
 (∀ (j : Nat),
 j < (sucL N.toNat (setF l)).length →
 ∀ (i : Nat),
 i < (nthD [] (sucL N.toNat (setF l)) j).length →
 nthD (0 : Int)
 (nthD [] (rowsOf N.toNat (List.take x_1 (normL N (setF l)))) j) i =
 nthD (0 : Int) (nthD [] (sucL N.toNat (setF l)) j) i) ∧
 True) ∧
 True) ∧
 N.toNat = (sucL N.toNat (setF l)).length)) := by kernel_rfl
theorem v53 (N : Int) (l : List Pq) (hv : validF N l = true) (hl : L9 l) : fnVc (tabK [kSet [], kNor [none, none, none, none, some (.mp (setF l)), some (.ps (normL N (setF l)))]] [(0, .of (lSuc N (normL N (setF l)) 16 3))] 5 (tkRow 6 3)) Try.f53 [rlV N 0 l] [arP l] (resIs (.sl 0 (sucL N.toNat (setF l)).length) 25 (sucL N.toNat (setF l)).length (rsCols (sucL N.toNat (setF l)))) := by
  rw [v53_eq]
  obtain ⟨h1, h2, h3⟩ := validF_iff.1 hv
  have hlen := norm_len (f := setF l) h2
  simp only [eq_self, true_and, and_true, implies_true, imp_self, mkN_ps, mkN_rs, mkN_self, mkN_len, PLoop.of, lCnt, lSuc, AV.len]
  refine ⟨by omega, by omega, by omega, hl, ⟨by omega, by omega⟩, (), ⟨0, by simp, rfl, fun j hj => ?_, fun j hj i hi => ?_⟩, fun i hi => ⟨fun hlt => ?_, fun hlt => ?_⟩⟩
  · rw [List.take_zero, nthD_rows hj]; rfl
  · rw [List.take_zero, nthD_rows hj] at hi; simp [secs] at hi
  · have hi2 := lt_len hlt
    have hm := nth_mem hi2
    generalize hp : nthD (0, 0) (normL N (setF l)) i = p at hm ⊢
    obtain ⟨x, y, hx, hy, hxy, rfl⟩ := mem_allL.1 hm
    simp only [Int.toNat_natCast]
    have key : ∀ j, j < N.toNat → nthD [] (rowsOf N.toNat (List.take (i + 1) (normL N (setF l)))) j = nthD [] (rowsOf N.toNat (List.take i (normL N (setF l)))) j ++ (if x = j then [(y : Int)] else []) := fun j hj => by
      rw [nthD_rows hj, nthD_rows hj, secs_take hi2, hp]
      congr 1
      by_cases e : x = j
      · subst e; simp
      · rw [if_neg e, if_neg (by simp only; omega)]
    have hr : (nthD [] (rowsOf N.toNat (List.take i (normL N (setF l)))) x).length ≤ 4096 := by
      rw [nthD_rows hx]
      exact Nat.le_trans secs_len (Nat.le_trans (by simp; omega) hlen)
    refine ⟨bd hi2, hi2, hx, by omega, hx, by omega, by omega, by omega, hx, i + 1, by omega, by omega, wrS (n := 4096) (by omega) (by omega), fun j hj => ?_, fun j hj k hk => ?_⟩
    · rw [key j hj]
      by_cases e : j = x
      · subst e; rw [beq_t, cond_true, if_pos rfl]; simp
      · rw [beq_f e, cond_false, if_neg (by omega), List.append_nil]
    · rw [key j hj] at hk ⊢
      by_cases e : j = x
      · subst e
        rw [beq_t, cond_true]
        rw [if_pos rfl] at hk ⊢
        by_cases hk2 : k < (nthD [] (rowsOf N.toNat (List.take i (normL N (setF l)))) j).length
        · rw [blt_t hk2, cond_true, nthD_lt _ hk2]
        · have e3 : k = (nthD [] (rowsOf N.toNat (List.take i (normL N (setF l)))) j).length := by simp at hk; omega
          rw [blt_f hk2, cond_false, e3, nthD_at, Nat.sub_self]
          rfl
      · rw [beq_f e, cond_false, if_neg (by omega), List.append_nil]
  · have hi2 := ge_len hlt hi
    rw [hi2, List.take_length, sucL_len]
    refine ⟨rfl, ⟨fun j hj => ?_, fun j hj k hk => ?_⟩, rfl⟩
    · rw [rows_norm hj]
    · rw [rows_norm hj]
theorem fo53 : fnOk Try.prog 53 := ⟨Try.f53, Try.func53, by kernel_rfl, by kernel_rfl⟩
def t53 : List AV → Tab
  | [.r N l] => tabK [kSet [], kNor [none, none, none, none, some (.mp (setF l)), some (.ps (normL N (setF l)))]] [(0, .of (lSuc N (normL N (setF l)) 16 3))] 5 (tkRow 6 3)
  | _ => tab [] []
theorem c53 : CallOk Try.prog [] 53 (genF EL [] [.r] sSuc) := by
  refine okT (fn := Try.f53) Try.func53 fo53 t53 (fun av => ?_) (fun av => ?_) (fun av pre rv h => ?_) (fun av pre rv h hp => ?_)
  · unfold t53; split <;> first | exact tabKOk (mOne (n56 _) (mOne (n55 _) mNil)) | exact tabOk mNil
  · unfold t53; split <;> exact ⟨rfl, rfl⟩
  · unfold sSuc at h; split at h <;> cases h
    exact ⟨rfl, fun t a e => by cases e <;> exact List.cons_ne_nil _ _⟩
  · unfold sSuc at h; split at h <;> cases h
    exact v53 _ _ (hp _ (.head _)) (hp _ (.tail _ (.head _)))
theorem n53 (nm : List (Option AV)) : CallOk Try.prog [] 53 (genF EL nm [.r] sSuc) := genNm c53
end Go.Proofs.Ytiokmglajigngaa
