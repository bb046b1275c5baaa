/-
  The linext layer: downsets, completions, whether an order is an extension: what is computed.
-/
import Derived.Test.YtiokmglajigngaaWPop
namespace Go.Proofs.Ytiokmglajigngaa
open Go Go.Proofs.Ytiokmglajigngaa.Sx
/-- Whether an order is a linear extension. -/
def isX (N : Int) (l : List Pq) (o : List Int) : Bool := validF N l && o.length == N.toNat && (List.range N.toNat).all (fun n : Nat => hasI o n) && l.all (fun p => decide (posI p.1 o 0 < posI p.2 o 0))
def atF (o : List Int) : List Col := [.int .i64 (fun j => posI j o 0)]
def sIs : Sp := fun | [.r N l, .is o] => some ([L9 l, L9 o], .pl (.b (isX N l o))) | _ => none
def kIs (nm : List (Option AV)) : Nat × (List MBlk → List SV → Option AR) := (16, genF EL nm [.r, .is] sIs)
def kIs' (nm : List (Option AV)) : Nat × (List MBlk → List SV → Option AR) := (17, genF EL nm [.r, .is] sIs)
def lIs0 (N : Int) (t e : Nat) : LAnn := lCnt N.toNat t (fun _ => True) (fun k => [(e, .oarr 3 N.toNat [.int .i64 (fun j => bif Nat.blt j k then -1 else 0)])]) []
def lIs1 (N : Int) (o : List Int) (t e : Nat) : LAnn := lCnt o.length t (fun k => (∀ x ∈ o.take k, 0 ≤ x ∧ x < N) ∧ (o.take k).Nodup) (fun k => [(e, .oarr 3 N.toNat (atF (o.take k)))]) []
def lIs2 (l : List Pq) (o : List Int) (t : Nat) : LAnn := lCnt l.length t (fun k => (l.take k).all (fun p => decide (posI p.1 o 0 < posI p.2 o 0)) = true) (fun _ => []) []
def lIs3 (N : Int) (o : List Int) (t : Nat) : LAnn := lCnt N.toNat t (fun k => (List.range k).all (fun n : Nat => hasI o n) = true) (fun _ => []) []
def toI (L : List Nat) : List Int := L.map (fun m : Nat => (m : Int))
def dsX (B : List Int) (s : Nat) (L : List Nat) : Nat → List Nat
  | 0 => L
  | x + 1 => bif frR B s x && !((dsX B s L x).contains (s ||| 2 ^ x)) then dsX B s L x ++ [s ||| 2 ^ x] else dsX B s L x
def dsI (B : List Int) (n : Nat) : Nat → List Nat
  | 0 => [0]
  | i + 1 => bif Nat.blt i (dsI B n i).length then dsX B (nthD 0 (dsI B n i) i) (dsI B n i) n else dsI B n i
def dsE (B : List Int) : List Nat := dsI B B.length 65537
def okD (B : List Int) : Bool := Nat.ble (dsE B).length 65536
def dsOut (B : List Int) : List Int := bif okD B then toI (dsE B) else []
def dsErr (B : List Int) : Int := bif okD B then 0 else 4
def seenF (L : List Nat) (j : Int) : Option Int := bif L.any (fun m => (m : Int) == j) then some 1 else none
def sDow : Sp := fun | [.po N B] => some ([N = (B.length : Int), B.length ≤ 64], .sl (fun k => .tup [.sl 0 k, .i .i64 (dsErr B)]) (.us (dsOut B))) | _ => none
def kDow (nm : List (Option AV)) : Nat × (List MBlk → List SV → Option AR) := (42, genF EL nm [.po] sDow)
def ownU (e : Nat) (L : List Nat) : Nat × MBlk := (e, .oarr 54 L.length (usCols (toI L)))
def dsJ (B : List Int) (i x : Nat) : List Nat := dsX B (nthD 0 (dsI B B.length i) i) (dsI B B.length i) x
def lDo0 (B : List Int) (e mp : Nat) : LAnn := ⟨Nat, fun i => i ≤ (dsI B B.length i).length ∧ (dsI B B.length i).length ≤ 65536, fun i => [(6, .i .i64 (i : Int)), (5, .sl e (dsI B B.length i).length)], fun i => [ownU e (dsI B B.length i), (mp, .mapi .u64 none (seenF (dsI B B.length i)))], fun i => 65537 - i, [e], []⟩
def lDo1 (B : List Int) (e mp : Nat) : PLoop := ⟨Nat, fun i => ⟨Nat, fun x => x ≤ B.length ∧ i < (dsI B B.length i).length ∧ (dsJ B i x).length ≤ 65536, fun x => [(20, .i .i64 (x : Int)), (5, .sl e (dsJ B i x).length)], fun x => [ownU e (dsJ B i x), (mp, .mapi .u64 none (seenF (dsJ B i x)))], fun x => B.length - x, [e], []⟩⟩
def sPop : Sp := fun | [.u s] => some ([0 ≤ s ∧ s < 2 ^ 64], .pl (.i .i64 (siz 64 s.toNat : Int))) | _ => none
def kPop (nm : List (Option AV)) : Nat × (List MBlk → List SV → Option AR) := (50, genF EL nm [.u] sPop)
def maxI : Nat := 9223372036854775807
/-- The sum over those that can come next. -/
def sumF (B : List Int) (s : Nat) (c : Nat → Nat) : Nat → Nat
  | 0 => 0
  | x + 1 => sumF B s c x + bif frR B s x then c (s ||| 2 ^ x) else 0
def cmpF (B : List Int) : Nat → Nat → Nat
  | 0, _ => 1
  | k + 1, s => sumF B s (cmpF B k) B.length
/-- The number of completions. -/
def cmp (B : List Int) (s : Nat) : Nat := cmpF B (B.length - siz 64 s) s
def okC (B : List Int) : Bool := okD B && Nat.ble (cmp B 0) maxI
def errC (B : List Int) : Int := bif okC B then 0 else 4
def cmM (B : List Int) (S : List Nat) (j : Int) : Option Int := bif S.any (fun m => (m : Int) == j) then some (cmp B j.toNat : Int) else none
def sCmp : Sp := fun | [.po N B] => some ([N = (B.length : Int), B.length ≤ 64, okC B = true], .mi .u64 (some .i64) (cmM B (dsE B)) (.i .i64 0)) | _ => none
def sCmE : Sp := fun | [.po N B] => some ([N = (B.length : Int), B.length ≤ 64, okC B = false], .pl (.tup [.nilmap, .i .i64 4])) | _ => none
def kCmp (nm : List (Option AV)) : Nat × (List MBlk → List SV → Option AR) := (44, genF EL nm [.po] sCmp)
def kCmE (nm : List (Option AV)) : Nat × (List MBlk → List SV → Option AR) := (44, genF EL nm [.po] sCmE)
def dsK (B : List Int) (k : Nat) : Nat := nthD 0 (dsE B) ((dsE B).length - 1 - k)
def lCo0 (B : List Int) (mp : Nat) : LAnn := ⟨Nat, fun k => k ≤ (dsE B).length ∧ ∀ s ∈ (dsE B).drop ((dsE B).length - k), cmp B s ≤ maxI, fun k => [(7, .i .i64 ((dsE B).length - 1 - k : Int))], fun k => [(mp, .mapi .u64 (some .i64) (cmM B ((dsE B).drop ((dsE B).length - k))))], fun k => (dsE B).length - k, [], []⟩
def lCo1 (B : List Int) : PLoop := ⟨Nat, fun k => ⟨Nat, fun x => x ≤ B.length ∧ k < (dsE B).length ∧ siz 64 (dsK B k) ≠ B.length ∧ sumF B (dsK B k) (cmp B) x ≤ maxI, fun x => [(41, .i .i64 (x : Int)), (9, .i .i64 (sumF B (dsK B k) (cmp B) x : Int))], fun _ => [], fun x => B.length - x, [], []⟩⟩
end Go.Proofs.Ytiokmglajigngaa
namespace Go.Proofs.Ytiokmglajigngaa
open Go Go.Proofs.Ytiokmglajigngaa.Sx
set_option maxRecDepth 100000
set_option linter.unusedSimpArgs false
set_option linter.unusedVariables false
theorem toI_len (L : List Nat) : (toI L).length = L.length := List.length_map ..
theorem nthD_toI : ∀ (L : List Nat) (j : Nat), nthD 0 (toI L) j = ((nthD 0 L j : Nat) : Int) := by
  intro L
  induction L with
  | nil => intro j; rfl
  | cons x r ih =>
    intro j
    cases j with
    | zero => rfl
    | succ j => exact ih j
theorem toI_app {L : List Nat} {x : Nat} : toI (L ++ [x]) = toI L ++ [(x : Int)] := by simp [toI]
theorem dsX_pre {B : List Int} {s : Nat} {L : List Nat} : ∀ x, ∃ t, dsX B s L x = L ++ t := by
  intro x
  induction x with
  | zero => exact ⟨[], by simp [dsX]⟩
  | succ x ih =>
    obtain ⟨t, h⟩ := ih
    rw [dsX, h]
    cases (frR B s x && !((L ++ t).contains (s ||| 2 ^ x)))
    · exact ⟨t, rfl⟩
    · exact ⟨t ++ [s ||| 2 ^ x], by simp⟩
theorem dsX_len {B : List Int} {s : Nat} {L : List Nat} (x : Nat) : (dsX B s L x).length ≤ (dsX B s L (x + 1)).length := by
  rw [dsX]
  cases (frR B s x && !((dsX B s L x).contains (s ||| 2 ^ x))) <;> simp
theorem dsX_len' {B : List Int} {s : Nat} {L : List Nat} {x : Nat} : ∀ {y : Nat}, x ≤ y → (dsX B s L x).length ≤ (dsX B s L y).length := by
  intro y h
  induction h with
  | refl => exact Nat.le_refl _
  | step _ ih => exact Nat.le_trans ih (dsX_len _)
theorem dsX_lt {B : List Int} {n s : Nat} {L : List Nat} (hs : s < 2 ^ n) (hL : ∀ m ∈ L, m < 2 ^ n) : ∀ x, x ≤ n → ∀ m ∈ dsX B s L x, m < 2 ^ n := by
  intro x
  induction x with
  | zero => intro _; exact hL
  | succ x ih =>
    intro hx m hm
    rw [dsX] at hm
    cases hc : (frR B s x && !((dsX B s L x).contains (s ||| 2 ^ x))) <;> rw [hc] at hm
    · exact ih (by omega) m hm
    · rw [cond_true] at hm
      rcases List.mem_append.1 hm with h | h
      · exact ih (by omega) m h
      · rw [List.mem_singleton.1 h]
        exact Nat.or_lt_two_pow hs (Nat.pow_lt_pow_right (by omega) (by omega))
theorem nthD_mem {α : Type} (d : α) {L : List α} {j : Nat} (h : j < L.length) : nthD d L j ∈ L := by
  rw [nthD_get _ _ _ h]; exact List.getElem_mem h
theorem dsI_lt {B : List Int} {n : Nat} : ∀ i, ∀ m ∈ dsI B n i, m < 2 ^ n := by
  intro i
  induction i with
  | zero => intro m hm; simp only [dsI, List.mem_singleton] at hm; subst hm; exact Nat.two_pow_pos n
  | succ i ih =>
    intro m hm
    rw [dsI] at hm
    cases hc : Nat.blt i (dsI B n i).length <;> rw [hc] at hm
    · exact ih m hm
    · exact dsX_lt (ih _ (nthD_mem 0 (by simpa using hc))) ih n (Nat.le_refl _) m hm
theorem dsI_pre {B : List Int} {n i : Nat} : ∀ {j : Nat}, i ≤ j → ∃ t, dsI B n j = dsI B n i ++ t := by
  intro j h
  induction h with
  | refl => exact ⟨[], by simp⟩
  | @step j _ ih =>
    obtain ⟨t, ht⟩ := ih
    rw [dsI]
    cases Nat.blt j (dsI B n j).length
    · exact ⟨t, ht⟩
    · obtain ⟨u, hu⟩ := dsX_pre (B := B) (s := nthD 0 (dsI B n j) j) (L := dsI B n j) n
      exact ⟨t ++ u, by rw [cond_true, hu, ht]; simp⟩
theorem dsI_len {B : List Int} {n i j : Nat} (h : i ≤ j) : (dsI B n i).length ≤ (dsI B n j).length := by
  obtain ⟨t, ht⟩ := dsI_pre (B := B) (n := n) h
  rw [ht]; simp
theorem dsI_stab {B : List Int} {n i : Nat} (h : (dsI B n i).length ≤ i) : ∀ {j : Nat}, i ≤ j → dsI B n j = dsI B n i := by
  intro j hj
  induction hj with
  | refl => rfl
  | @step j hij ih =>
    rw [dsI, ih, show Nat.blt j (dsI B n i).length = false from (by
      cases hb : Nat.blt j (dsI B n i).length
      · rfl
      · have : j < (dsI B n i).length := by simpa using hb
        have : i ≤ j := hij
        omega), cond_false]
theorem dsJ_nth {B : List Int} {i x : Nat} (h : i < (dsI B B.length i).length) : nthD 0 (dsJ B i x) i = nthD 0 (dsI B B.length i) i := by
  obtain ⟨t, ht⟩ := dsX_pre (B := B) (s := nthD 0 (dsI B B.length i) i) (L := dsI B B.length i) x
  rw [dsJ, ht, nthD_lt _ h]
theorem dsJ_all {B : List Int} {i : Nat} (h : i < (dsI B B.length i).length) : dsJ B i B.length = dsI B B.length (i + 1) := by
  rw [dsI, show Nat.blt i (dsI B B.length i).length = true by simpa using h]; rfl
theorem dsJ_ilen {B : List Int} {i x : Nat} : (dsI B B.length i).length ≤ (dsJ B i x).length := by
  obtain ⟨t, ht⟩ := dsX_pre (B := B) (s := nthD 0 (dsI B B.length i) i) (L := dsI B B.length i) x
  rw [dsJ, ht]; simp
theorem dsJ_succ {B : List Int} {i x : Nat} : dsJ B i (x + 1) = bif frR B ((nthD 0 (dsI B B.length i) i : Nat) : Int) x && !((dsJ B i x).contains (nthD 0 (dsI B B.length i) i ||| 2 ^ x)) then dsJ B i x ++ [nthD 0 (dsI B B.length i) i ||| 2 ^ x] else dsJ B i x := rfl
theorem seen_val {L : List Nat} {m : Nat} : (val0 (seenF L m) != 0) = L.contains m := by
  have : L.any (fun k => (k : Int) == (m : Int)) = L.contains m := by
    induction L with
    | nil => rfl
    | cons x r ih =>
      rw [List.any_cons, ih, List.contains_cons]
      congr 1
      rw [Bool.eq_iff_iff, beq_iff_eq, beq_iff_eq]; omega
  rw [seenF, this]
  cases L.contains m <;> rfl
theorem seen_app {L : List Nat} {m : Nat} (j : Int) : (bif j == (m : Int) then some (bif true then 1 else 0) else seenF L j) = seenF (L ++ [m]) j := by
  simp only [seenF, List.any_append, List.any_cons, List.any_nil, Bool.or_false]
  by_cases h : j = (m : Int)
  · subst h; simp
  · have h1 : (j == (m : Int)) = false := beq_false_of_ne h
    have h2 : ((m : Int) == j) = false := beq_false_of_ne (Ne.symm h)
    rw [h1, h2, Bool.or_false, cond_false]
theorem shl_pow {x : Nat} : 1 <<< x = 2 ^ x := Nat.one_shiftLeft x
theorem or_shl {t x : Nat} (ht : t < 2 ^ 64) (hx : x < 64) : bits .or .u64 (t : Int) (IntKind.u64.wrap (1 * 2 ^ x)) = ((t ||| 2 ^ x : Nat) : Int) := by
  rw [wrap_shl hx, bits_or ht (one_lt hx), shl_pow]
theorem dsO_ok {B : List Int} (h : okD B = true) : dsOut B = toI (dsE B) ∧ dsErr B = 0 ∧ (dsE B).length ≤ 65536 := by
  exact ⟨by rw [dsOut, h, cond_true], by rw [dsErr, h, cond_true], Nat.le_of_ble_eq_true h⟩
theorem dsO_no {B : List Int} (h : okD B = false) : dsOut B = [] ∧ dsErr B = 4 := ⟨by rw [dsOut, h, cond_false], by rw [dsErr, h, cond_false]⟩
theorem v42_eq (B : List Int) : (fnVc (tab [kFre [none, some (.us B)]] [(0, .of (lDo0 B 4 3)), (2, lDo1 B 4 3)]) Try.f42 [poV B.length 0 B] [arU B] (resIs (.tup [.sl 0 (dsOut B).length, .i .i64 (dsErr B)]) 54 (dsOut B).length (usCols (dsOut B)))) = (∃ (x : PUnit),
 (∃ (x : Nat),
 (x ≤ (dsI B B.length x).length ∧ (dsI B B.length x).length ≤ (65536 : Nat)) ∧
 ((0 : Int) = (↑x : Int) ∧ (1 : Nat) = (dsI B B.length x).length ∧ True) ∧
 ((1 : Nat) = (dsI B B.length x).length ∧
 (∀ (j : Nat),
 j < (dsI B B.length x).length → pickI [(0 : Int)] j = nthD (0 : Int) (toI (dsI B B.length x)) j) ∧
 True) ∧
 (∀ (x_1 : Int),
 (bif x_1 == (0 : Int) then some (bif true then (1 : Int) else (0 : Int)) else none) =
 seenF (dsI B B.length x) x_1) ∧
 True) ∧
 ∀ (x_1 : Nat),
 x_1 ≤ (dsI B B.length x_1).length ∧ (dsI B B.length x_1).length ≤ (65536 : Nat) →
 (decide ((↑x_1 : Int) < (↑(dsI B B.length x_1).length : Int)) = true →
 ∃ (x_2 : Nat),
 (∃ (x : Nat),
 (x ≤ B.length ∧ x_2 < (dsI B B.length x_2).length ∧ (dsJ B x_2 x).length ≤ (65536 : Nat)) ∧
 ((0 : Int) = (↑x : Int) ∧ (dsI B B.length x_1).length = (dsJ B x_2 x).length ∧ True) ∧
 ((dsI B B.length x_1).length = (dsJ B x_2 x).length ∧
 (∀ (j : Nat),
 j < (dsJ B x_2 x).length →
 nthD (0 : Int) (toI (dsI B B.length x_1)) j = nthD (0 : Int) (toI (dsJ B x_2 x)) j) ∧
 True) ∧
 (∀ (x_3 : Int), seenF (dsI B B.length x_1) x_3 = seenF (dsJ B x_2 x) x_3) ∧ True) ∧
 ∀ (x_3 : Nat),
 x_3 ≤ B.length ∧ x_2 < (dsI B B.length x_2).length ∧ (dsJ B x_2 x_3).length ≤ (65536 : Nat) →
 (decide ((↑x_3 : Int) < (↑B.length : Int)) = true →
 ((0 : Int) ≤ (↑x_1 : Int) ∧ (↑x_1 : Int) < (↑(dsJ B x_2 x_3).length : Int)) ∧
 x_1 < (dsJ B x_2 x_3).length ∧
 B.length = B.length ∧
 ((0 : Int) ≤ (↑x_3 : Int) ∧ (↑x_3 : Int) < (64 : Int)) ∧
 (↑x_3 : Int) + (1 : Int) ≤ (↑(mkN (nthD (0 : Int) B) B.length).length : Int) ∧
 ((!frR (mkN (nthD (0 : Int) B) B.length) (nthD (0 : Int) (toI (dsJ B x_2 x_3)) x_1)
 (↑x_3 : Int)) =
 true →
 ∃ (x : Nat),
 (x ≤ B.length ∧
 x_2 < (dsI B B.length x_2).length ∧ (dsJ B x_2 x).length ≤ (65536 : Nat)) ∧
 ((lDo1 B (4 : Nat) (3 : Nat)).ann x_2).mu x <
 ((lDo1 B (4 : Nat) (3 : Nat)).ann x_2).mu x_3 ∧
 (((↑B.length : Int) = (↑B.length : Int) ∧ B.length = B.length) ∧
 True ∧
 True ∧
 (dsJ B x_2 x_3).length = (dsJ B x_2 x).length ∧
 (↑x_1 : Int) = (↑x_1 : Int) ∧
 True ∧
 True ∧
 (↑x_1 : Int) = (↑x_1 : Int) ∧
 (↑(dsI B B.length x_1).length : Int) =
 (↑(dsI B B.length x_1).length : Int) ∧
 true = true ∧
 True ∧
 (↑B.length : Int) = (↑B.length : Int) ∧
 IntKind.i64.wrap ((↑x_3 : Int) + (1 : Int)) =
 (↑x : Int) ∧
 True) ∧
 (B.length = B.length ∧
 (∀ (j : Nat),
 j < B.length → nthD (0 : Int) B j = nthD (0 : Int) B j) ∧
 True) ∧
 ((↑B.length : Int) = (↑B.length : Int) ∧ B.length = B.length) ∧
 ((0 : Nat) = (0 : Nat) ∧ True ∧ True) ∧
 (∀ (x_4 : Int),
 seenF (dsJ B x_2 x_3) x_4 = seenF (dsJ B x_2 x) x_4) ∧
 ((dsJ B x_2 x_3).length = (dsJ B x_2 x).length ∧
 (∀ (j : Nat),
 j < (dsJ B x_2 x).length →
 nthD (0 : Int) (toI (dsJ B x_2 x_3)) j =
 nthD (0 : Int) (toI (dsJ B x_2 x)) j) ∧
 True) ∧
 True) ∧
 ((!frR (mkN (nthD (0 : Int) B) B.length) (nthD (0 : Int) (toI (dsJ B x_2 x_3)) x_1)
 (↑x_3 : Int)) =
 false →
 ((0 : Int) ≤ (↑x_1 : Int) ∧ (↑x_1 : Int) < (↑(dsJ B x_2 x_3).length : Int)) ∧
 x_1 < (dsJ B x_2 x_3).length ∧
 ((0 : Int) ≤ (↑x_3 : Int) ∧ (↑x_3 : Int) ≤ (↑IntKind.u64.bits : Int)) ∧
 ((val0
 (seenF (dsJ B x_2 x_3)
 (bits BinOp.or IntKind.u64
 (nthD (0 : Int) (toI (dsJ B x_2 x_3)) x_1)
 (IntKind.u64.wrap ((1 : Int) * (2 : Int) ^ x_3)))) !=
 (0 : Int)) =
 true →
 ∃ (x : Nat),
 (x ≤ B.length ∧
 x_2 < (dsI B B.length x_2).length ∧
 (dsJ B x_2 x).length ≤ (65536 : Nat)) ∧
 ((lDo1 B (4 : Nat) (3 : Nat)).ann x_2).mu x <
 ((lDo1 B (4 : Nat) (3 : Nat)).ann x_2).mu x_3 ∧
 (((↑B.length : Int) = (↑B.length : Int) ∧ B.length = B.length) ∧
 True ∧
 True ∧
 (dsJ B x_2 x_3).length = (dsJ B x_2 x).length ∧
 (↑x_1 : Int) = (↑x_1 : Int) ∧
 True ∧
 True ∧
 (↑x_1 : Int) = (↑x_1 : Int) ∧
 (↑(dsI B B.length x_1).length : Int) =
 (↑(dsI B B.length x_1).length : Int) ∧
 true = true ∧
 True ∧
 (↑B.length : Int) = (↑B.length : Int) ∧
 IntKind.i64.wrap
 ((↑x_3 : Int) + (1 : Int)) =
 (↑x : Int) ∧
 True) ∧
 (B.length = B.length ∧
 (∀ (j : Nat),
 j < B.length →
 nthD (0 : Int) B j = nthD (0 : Int) B j) ∧
 True) ∧
 ((↑B.length : Int) = (↑B.length : Int) ∧
 B.length = B.length) ∧
 ((0 : Nat) = (0 : Nat) ∧ True ∧ True) ∧
 (∀ (x_4 : Int),
 seenF (dsJ B x_2 x_3) x_4 = seenF (dsJ B x_2 x) x_4) ∧
 ((dsJ B x_2 x_3).length = (dsJ B x_2 x).length ∧
 (∀ (j : Nat),
 j < (dsJ B x_2 x).length →
 nthD (0 : Int) (toI (dsJ B x_2 x_3)) j =
 nthD (0 : Int) (toI (dsJ B x_2 x)) j) ∧
 True) ∧
 True) ∧
 ((val0
 (seenF (dsJ B x_2 x_3)
 (bits BinOp.or IntKind.u64
 (nthD (0 : Int) (toI (dsJ B x_2 x_3)) x_1)
 (IntKind.u64.wrap ((1 : Int) * (2 : Int) ^ x_3)))) !=
 (0 : Int)) =
 false →
 (((↑(dsJ B x_2 x_3).length : Int) == (65536 : Int)) = true →
 (0 : Nat) = (dsOut B).length ∧
 ((dsOut B).length = (0 : Nat) ∧ True) ∧
 (0 : Nat) = (dsOut B).length ∧ (4 : Int) = dsErr B ∧ True) ∧
 (((↑(dsJ B x_2 x_3).length : Int) == (65536 : Int)) = false →
 (dsJ B x_2 x_3).length = (dsJ B x_2 x_3).length ∧
 (1 : Nat) = (1 : Nat) ∧
 ((dsJ B x_2 x_3).length + (1 : Nat)) * (8 : Nat) ≤
 (140737488355328 : Nat) ∧
 (dsJ B x_2 x_3).length + (1 : Nat) ≤
 (9223372036854775807 : Nat) ∧
 ∃ (x : Nat),
 (x ≤ B.length ∧
 x_2 < (dsI B B.length x_2).length ∧
 (dsJ B x_2 x).length ≤ (65536 : Nat)) ∧
 ((lDo1 B (4 : Nat) (3 : Nat)).ann x_2).mu x <
 ((lDo1 B (4 : Nat) (3 : Nat)).ann x_2).mu x_3 ∧
 (((↑B.length : Int) = (↑B.length : Int) ∧
 B.length = B.length) ∧
 True ∧
 True ∧
 (dsJ B x_2 x_3).length + (1 : Nat) =
 (dsJ B x_2 x).length ∧
 (↑x_1 : Int) = (↑x_1 : Int) ∧
 True ∧
 True ∧
 (↑x_1 : Int) = (↑x_1 : Int) ∧
 (↑(dsI B B.length x_1).length :
 Int) =
 (↑(dsI B B.length x_1).length :
 Int) ∧
 true = true ∧
 True ∧
 (↑B.length : Int) =
 (↑B.length : Int) ∧
 IntKind.i64.wrap
 ((↑x_3 : Int) +
 (1 : Int)) =
 (↑x : Int) ∧
 True) ∧
 (B.length = B.length ∧
 (∀ (j : Nat),
 j < B.length →
 nthD (0 : Int) B j = nthD (0 : Int) B j) ∧
 True) ∧
 ((↑B.length : Int) = (↑B.length : Int) ∧
 B.length = B.length) ∧
 ((0 : Nat) = (0 : Nat) ∧ True ∧ True) ∧
 (∀ (x_4 : Int),
 (bif
 x_4 ==
 bits BinOp.or IntKind.u64
 (nthD (0 : Int)
 (toI (dsJ B x_2 x_3)) x_1)
 (IntKind.u64.wrap
 ((1 : Int) *
 (2 : Int) ^ x_3)) then
 some
 (bif true then (1 : Int)
 else (0 : Int))
 else seenF (dsJ B x_2 x_3) x_4) =
 seenF (dsJ B x_2 x) x_4) ∧
 ((dsJ B x_2 x_3).length + (1 : Nat) =
 (dsJ B x_2 x).length ∧
 (∀ (j : Nat),
 j < (dsJ B x_2 x).length →
 (bif
 j.blt
 (dsJ B x_2
 x_3).length then
 nthD (0 : Int)
 (toI (dsJ B x_2 x_3)) j
 else
 pickI
 [bits BinOp.or IntKind.u64
 (nthD (0 : Int)
 (toI (dsJ B x_2 x_3))
 x_1)
 (IntKind.u64.wrap
 ((1 : Int) *
 (2 : Int) ^ x_3))]
 (j -
 (dsJ B x_2 x_3).length)) =
 nthD (0 : Int)
 (toI (dsJ B x_2 x)) j) ∧
 True) ∧
 True)))) ∧
 (decide ((↑x_3 : Int) < (↑B.length : Int)) = false →
 ∃ (x_4 : Nat),
 (x_4 ≤ (dsI B B.length x_4).length ∧ (dsI B B.length x_4).length ≤ (65536 : Nat)) ∧
 ((PLoop.of (lDo0 B (4 : Nat) (3 : Nat))).ann x).mu x_4 <
 ((PLoop.of (lDo0 B (4 : Nat) (3 : Nat))).ann x).mu x_1 ∧
 (((↑B.length : Int) = (↑B.length : Int) ∧ B.length = B.length) ∧
 True ∧
 True ∧
 (dsJ B x_2 x_3).length = (dsI B B.length x_4).length ∧
 IntKind.i64.wrap ((↑x_1 : Int) + (1 : Int)) = (↑x_4 : Int) ∧
 True ∧ True ∧ True) ∧
 (B.length = B.length ∧
 (∀ (j : Nat), j < B.length → nthD (0 : Int) B j = nthD (0 : Int) B j) ∧ True) ∧
 ((↑B.length : Int) = (↑B.length : Int) ∧ B.length = B.length) ∧
 ((0 : Nat) = (0 : Nat) ∧ True ∧ True) ∧
 (∀ (x : Int), seenF (dsJ B x_2 x_3) x = seenF (dsI B B.length x_4) x) ∧
 ((dsJ B x_2 x_3).length = (dsI B B.length x_4).length ∧
 (∀ (j : Nat),
 j < (dsI B B.length x_4).length →
 nthD (0 : Int) (toI (dsJ B x_2 x_3)) j =
 nthD (0 : Int) (toI (dsI B B.length x_4)) j) ∧
 True) ∧
 True)) ∧
 (decide ((↑x_1 : Int) < (↑(dsI B B.length x_1).length : Int)) = false →
 (dsI B B.length x_1).length = (dsOut B).length ∧
 ((∀ (j : Nat),
 j < (dsOut B).length → nthD (0 : Int) (toI (dsI B B.length x_1)) j = nthD (0 : Int) (dsOut B) j) ∧
 True) ∧
 (dsI B B.length x_1).length = (dsOut B).length ∧ (0 : Int) = dsErr B ∧ True)) := by kernel_rfl
theorem v42 (B : List Int) (hn : B.length ≤ 64) : fnVc (tab [kFre [none, some (.us B)]] [(0, .of (lDo0 B 4 3)), (2, lDo1 B 4 3)]) Try.f42 [poV B.length 0 B] [arU B] (resIs (.tup [.sl 0 (dsOut B).length, .i .i64 (dsErr B)]) 54 (dsOut B).length (usCols (dsOut B))) := by
  rw [v42_eq]
  simp only [eq_self, true_and, and_true, implies_true, imp_self, mkN_ps, mkN_rs, mkN_self, mkN_len, PLoop.of, lCnt, AV.len, lDo0, lDo1, lCo0, lCo1]
  refine ⟨(), ⟨0, ⟨by simp, by simp [dsI]⟩, ⟨rfl, rfl⟩, ⟨rfl, fun j hj => ?_⟩, fun j => ?_⟩, fun i hi => ⟨fun hlt => ⟨i, ⟨0, ⟨Nat.zero_le _, lt_len hlt, hi.2⟩, ⟨rfl, rfl⟩, ⟨rfl, fun _ _ => rfl⟩, fun _ => rfl⟩, fun x hx => ⟨fun hlx => ?_, fun hlx => ?_⟩⟩, fun hlt => ?_⟩⟩
  · have : j = 0 := by simp [dsI] at hj; omega
    subst this; rfl
  · simp only [dsI, seenF, List.any_cons, List.any_nil, Bool.or_false]
    by_cases h : j = 0
    · subst h; rfl
    · rw [beq_false_of_ne h, show (((0 : Nat) : Int) == j) = false from beq_false_of_ne (fun e => h e.symm)]; rfl
  · obtain ⟨h1, h2, h3⟩ := hx
    have hx2 := lt_len hlx
    have hil := dsJ_ilen (B := B) (i := i) (x := x)
    have hib : i < (dsJ B i x).length := by omega
    have hmem := nthD_mem 0 h2
    have ht := dsI_lt (B := B) (n := B.length) i _ hmem
    have ht64 := lt64 ht hn
    have hs : nthD 0 (toI (dsJ B i x)) i = ((nthD 0 (dsI B B.length i) i : Nat) : Int) := by rw [nthD_toI, dsJ_nth h2]
    have hor := or_shl (x := x) ht64 (by omega)
    rw [hs, hor, seen_val]
    have hw := wrS (n := 64) (i := x) (by omega) (by omega)
    have hsucc := dsJ_succ (B := B) (i := i) (x := x)
    generalize hst : nthD 0 (dsI B B.length i) i = s at *
    refine ⟨bd hib, hib, ⟨by omega, by omega⟩, by omega, fun hf => ?_, fun hf => ⟨bd hib, hib, ⟨by omega, by simp [IntKind.bits]; omega⟩, fun hc => ?_, fun hc => ⟨fun hl => ?_, fun hl => ?_⟩⟩⟩
    · have hf : frR B (s : Int) x = false := by simpa using hf
      have hsucc : dsJ B i (x + 1) = dsJ B i x := by rw [hsucc, hf]; rfl
      exact ⟨x + 1, ⟨by omega, h2, by rw [hsucc]; exact h3⟩, by omega, ⟨by rw [hsucc], hw⟩, fun _ => by rw [hsucc], by rw [hsucc], fun _ _ => by rw [hsucc]⟩
    · have hsucc : dsJ B i (x + 1) = dsJ B i x := by rw [hsucc, hc, Bool.not_true, Bool.and_false]; rfl
      exact ⟨x + 1, ⟨by omega, h2, by rw [hsucc]; exact h3⟩, by omega, ⟨by rw [hsucc], hw⟩, fun _ => by rw [hsucc], by rw [hsucc], fun _ _ => by rw [hsucc]⟩
    · have hf : frR B (s : Int) x = true := by simpa using hf
      have hl : (dsJ B i x).length = 65536 := by have := of_decide_eq_true hl; omega
      have hsucc : dsJ B i (x + 1) = dsJ B i x ++ [s ||| 2 ^ x] := by rw [hsucc, hc, hf]; rfl
      have hlen : (dsJ B i (x + 1)).length = 65537 := by rw [hsucc, List.length_append, hl]; rfl
      have h4 : (dsJ B i (x + 1)).length ≤ (dsJ B i B.length).length := dsX_len' hx2
      rw [dsJ_all h2] at h4
      have h5 := dsI_len (B := B) (n := B.length) (i := i + 1) (j := 65537) (by omega)
      have hno : okD B = false := by
        cases hb : okD B
        · rfl
        · have := (dsO_ok hb).2.2
          unfold dsE at this
          omega
      obtain ⟨e1, e2⟩ := dsO_no hno
      rw [e1, e2]
      exact ⟨rfl, rfl, rfl, rfl⟩
    · have hf : frR B (s : Int) x = true := by simpa using hf
      have hl : (dsJ B i x).length ≠ 65536 := fun e => by rw [e] at hl; cases hl
      have hsucc : dsJ B i (x + 1) = dsJ B i x ++ [s ||| 2 ^ x] := by rw [hsucc, hc, hf]; rfl
      have hlen : (dsJ B i (x + 1)).length = (dsJ B i x).length + 1 := by rw [hsucc, List.length_append]; rfl
      refine ⟨by omega, by omega, x + 1, ⟨by omega, h2, by omega⟩, by omega, ⟨hlen.symm, hw⟩, fun j => ?_, hlen.symm, fun j hj => ?_⟩
      · rw [hsucc]; exact seen_app j
      · have := ap1I (l := toI (dsJ B i x)) (x := ((s ||| 2 ^ x : Nat) : Int)) j (by rw [← toI_app, toI_len, ← hsucc]; exact hj)
        rw [toI_len] at this
        rw [hsucc, toI_app]; exact this
  · obtain ⟨h1, h2, h3⟩ := hx
    have hx2 := ge_len hlx h1
    subst hx2
    rw [dsJ_all h2] at h3 ⊢
    have hll := dsI_len (B := B) (n := B.length) (i := i) (j := i + 1) (by omega)
    exact ⟨i + 1, ⟨by omega, h3⟩, by omega, ⟨rfl, wrS (n := 65537) (by omega) (by omega)⟩, fun _ => rfl, rfl, fun _ _ => rfl⟩
  · have hle := ge_len hlt hi.1
    have hE : dsE B = dsI B B.length i := dsI_stab (by omega) (by omega)
    have hok : okD B = true := by rw [okD, hE]; simpa using hi.2
    obtain ⟨e1, e2, _⟩ := dsO_ok hok
    rw [e1, e2, toI_len, hE]
    exact ⟨rfl, fun _ _ => rfl, rfl, rfl⟩
end Go.Proofs.Ytiokmglajigngaa
