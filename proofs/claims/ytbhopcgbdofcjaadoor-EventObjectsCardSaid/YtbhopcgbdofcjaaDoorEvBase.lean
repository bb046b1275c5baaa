/-
  A part of the proof (EvBase).
-/
import Derived.Test.YtbhopcgbdofcjaaDoorSx12
import Derived.Test.YtbhopcgbdofcjaaDoorRows
namespace Go.Proofs.YtbhopcgbdofcjaaDoor
open Go Go.Proofs.YtbhopcgbdofcjaaDoor.Sx

def tyTab : List (Nat × TI) := [
(3, ⟨0, 1, 8, [.i .i64 0], [], 0, 0, some IntKind.i64, none⟩),
(4, ⟨5, 1, 1, [SV.ff], [], 0, 0, none, none⟩),
(25, ⟨0, 1, 8, [.i .i64 0], [], 0, 0, some IntKind.i64, none⟩),
(26, ⟨0, 1, 8, [.i .i64 0], [], 0, 0, some IntKind.i64, none⟩),
(28, ⟨1, 9, 72, [.i .i64 0, .i .i64 0, .i .i64 0, .i .i64 0, .i .i64 0, .i .i64 0, .i .i64 0, .i .i64 0, .i .i64 0], [(0, 1), (1, 1), (2, 1), (3, 1), (4, 1), (5, 1), (6, 1), (7, 1), (8, 1)], 0, 0, none, none⟩),
(30, ⟨0, 1, 2, [.i .u16 0], [], 0, 0, some IntKind.u16, none⟩),
(35, ⟨3, 1, 24, [SV.nilsl], [], 39, 4, none, none⟩),
(37, ⟨0, 1, 8, [.i .i64 0], [], 0, 0, some IntKind.i64, none⟩),
(39, ⟨1, 4, 32, [.i .i64 0, .i .i64 0, .i .i64 0, SV.ff], [(0, 1), (1, 1), (2, 1), (3, 1)], 0, 0, none, some [some IntKind.i64, some IntKind.i64, some IntKind.i64, none]⟩),
(42, ⟨1, 8, 64, [.i .i64 0, SV.ff, .i .i64 0, .i .i64 0, SV.ff, .i .i64 0, .i .i64 0, SV.ff], [(0, 1), (1, 1), (2, 1), (3, 1), (4, 1), (5, 1), (6, 1), (7, 1)], 0, 0, none, none⟩),
(43, ⟨2, 136, 1088, [], [], 42, 17, none, none⟩),
(46, ⟨3, 1, 24, [SV.nilsl], [], 4, 1, none, none⟩)]

theorem tys : ∀ t ti, assoc tyTab t = some ti → tiChk Tryd.prog t ti = true := by
  intro t ti h
  have key : (tyTab.all fun p => tiChk Tryd.prog p.1 p.2) = true := by kernel_rfl
  exact List.all_eq_true.1 key _ (assoc_mem h)

theorem mixed : Tryd.prog.follows .mixedOrders = true := by kernel_rfl

/-- An event: its nine numbers. -/
structure Ev where
  ag : Int
  ix : Int
  k : Int
  ob : Int
  mu : Int
  en : Int
  od : Int
  rd : Int
  wr : Int
def evSV (e : Ev) : SV := .agg [.i .i64 e.ag, .i .i64 e.ix, .i .i64 e.k, .i .i64 e.ob, .i .i64 e.mu, .i .i64 e.en, .i .i64 e.od, .i .i64 e.rd, .i .i64 e.wr]
def dEv : SV → Option Ev
  | .agg [.i .i64 ag, .i .i64 ix, .i .i64 k, .i .i64 ob, .i .i64 mu, .i .i64 en, .i .i64 od, .i .i64 rd, .i .i64 wr] => some ⟨ag, ix, k, ob, mu, en, od, rd, wr⟩
  | _ => none
theorem dEv_some {x : SV} {e : Ev} (h : dEv x = some e) : x = evSV e := by
  unfold dEv at h
  split at h
  · simp only [Option.some.injEq] at h; subst h; rfl
  · cases h

/-- The table, column by column. -/
def tMostL : List Int := [7, 7, 7, 7, 7, 7, 0, 7, 3, 3, 3, 3, 3, 3, 3, -1, -1]
def tOrdL : List Bool := [true, true, true, false, true, true, false, true, false, false, false, false, false, false, false, false, false]
def tLowL : List Int := [-2147483648, 0, 0, 0, -2147483648, -2147483648, 0, -2147483648, 0, 0, 0, 0, 0, 0, 0, 0, 0]
def tHighL : List Int := [2147483647, 0, 0, 0, 2147483647, 2147483647, 0, 2147483647, 0, 0, 1, 0, 0, 1, -1, 0, 0]
def tWroteL : List Bool := [false, true, true, true, true, false, false, false, false, false, false, false, false, false, false, false, false]
def tLeastL : List Int := [-1, -2, 0, 0, -2, -2, -2, -1, -2, -2, -2, -2, -2, -2, -2, -2, -2]
def tAccL : List Int := [1, 1, 4, 1, 1, 1, 0, 1, 2, 2, 2, 3, 3, 3, 3, 0, 0]
def tWriteL : List Bool := [false, true, true, true, true, false, false, false, true, true, true, true, true, true, true, false, false]
def tbl : MBlk := .arr 17 [.int .i64 (pickI tMostL), .bool (pickB tOrdL), .int .i64 (pickI tLowL), .int .i64 (pickI tHighL), .bool (pickB tWroteL), .int .i64 (pickI tLeastL), .int .i64 (pickI tAccL), .bool (pickB tWriteL)]

/-! ### What the functions compute -/
def w64 (n : Int) : Int := IntKind.i64.wrap n
def threadI (n : Int) : Int := bif decide (n < 0) then w64 (0 - w64 (n + 1)) else n
def flusherI (n : Int) : Int := bif decide (n < 0) then 0 else w64 (w64 (0 - n) - 1)
def within (n m : Int) : Bool := decide (n ≥ 0) && decide (n < m)
def isVal (n : Int) : Bool := decide (n ≥ -2147483648) && decide (n ≤ 2147483647)
def ordK (k : Int) : Bool := k == 1 || k == 2 || k == 3 || k == 5 || k == 6 || k == 8
def readK (k : Int) : Bool := k == 1 || k == 8 || k == 5 || k == 6
def wroteK (k : Int) : Bool := k == 2 || k == 3 || k == 4 || k == 5
def objE (e : Ev) : Bool := bif e.k == 7 then e.ob == 0 else bif e.k == 9 || e.k == 10 || e.k == 11 then within e.ob 4 else bif e.k == 12 || e.k == 13 || e.k == 14 || e.k == 15 then within e.ob 4 else bif e.k == 16 || e.k == 17 then decide (e.ob ≥ 0) else within e.ob 8
def resE (e : Ev) : Bool := bif e.k == 11 || e.k == 14 then within e.rd 2 else bif e.k == 15 then decide (e.rd ≥ 0) else isVal e.rd && (readK e.k || e.rd == 0)
def entE (e : Ev) : Bool := bif e.k == 1 || e.k == 8 then decide (e.en ≥ -1) else bif e.k == 3 || e.k == 4 then decide (e.en ≥ 0) else e.en == -1
def validE (e : Ev) : Bool :=
  decide (1 ≤ e.k) && decide (e.k ≤ 17) && (decide (e.ag < 0) == (e.k == 4)) && decide (0 ≤ e.ix) && objE e && resE e && entE e &&
  decide (0 ≤ e.od) && decide (e.od ≤ 2) && (ordK e.k || e.od == 0) && isVal e.wr && (wroteK e.k || e.wr == 0) &&
  (bif e.k == 12 then within e.mu 4 else e.mu == -1)

def readE (e : Ev) : Bool := validE e && readK e.k
def writeE (e : Ev) : Bool := validE e && (e.k == 2 || e.k == 5 || e.k == 4)
def creE (a b : Ev) : Bool := (a.k == 16 || a.k == 17) && (a.ob == threadI b.ag || (a.k == 16 && b.k == 17 && a.ob == b.ob))
def draE (a b : Ev) : Bool := decide (0 ≤ a.ag) && b.ag == flusherI a.ag && !(a.k == 1 || a.k == 2 || a.k == 3 || a.k == 8)
def draR (a b : Ev) : Bool := decide (0 ≤ a.ag) && b.ag == flusherI a.ag && !(a.k == 1 || a.k == 2 || a.k == 3 || a.k == 8 || a.k == 4)
/-- An access: kind, number, entry, whether it writes. -/
structure Ac where
  k : Int
  i : Int
  s : Int
  w : Bool
def own (e : Ev) (w : Bool) : Ac := ⟨4, threadI e.ag, e.en, w⟩
def acc (e : Ev) : List Ac :=
  bif e.k == 1 || e.k == 8 then (bif decide (e.en ≥ 0) then [own e false] else [⟨1, e.ob, 0, false⟩])
  else bif e.k == 6 then [⟨1, e.ob, 0, false⟩]
  else bif e.k == 2 || e.k == 5 then [⟨1, e.ob, 0, true⟩]
  else bif e.k == 3 then [own e true]
  else bif e.k == 4 then [⟨1, e.ob, 0, true⟩, own e true]
  else bif e.k == 9 || e.k == 10 || e.k == 11 then [⟨2, e.ob, 0, true⟩]
  else bif e.k == 12 then [⟨2, e.mu, 0, true⟩, ⟨3, e.ob, 0, true⟩]
  else bif e.k == 13 || e.k == 14 || e.k == 15 then [⟨3, e.ob, 0, true⟩]
  else []
def nthA : List Ac → Nat → Ac
  | [], _ => ⟨0, 0, 0, false⟩
  | x :: r, j => bif Nat.beq j 0 then x else nthA r (j - 1)
def cK (l : List Ac) (j : Nat) : Int := (nthA l j).k
def cI (l : List Ac) (j : Nat) : Int := (nthA l j).i
def cS (l : List Ac) (j : Nat) : Int := (nthA l j).s
def cW (l : List Ac) (j : Nat) : Bool := (nthA l j).w
def colsA (l : List Ac) : List Col := [.int .i64 (cK l), .int .i64 (cI l), .int .i64 (cS l), .bool (cW l)]
/-- A contract of a function of an event that gives accesses. -/
def fA (pre : Ev → Prop) (g : Ev → List Ac) : List MBlk → List SV → Option AR := fun m vs => match vs with
  | [x] => match dEv x with
    | some e => some ⟨[nth m 0 = some tbl, pre e], .sl m.length (g e).length, [.oarr 39 (g e).length (colsA (g e))]⟩
    | none => none
  | _ => none
def accV (e : Ev) : List Ac := bif validE e then acc e else []
def hit (x y : Ac) : Bool := x.k == y.k && x.i == y.i && x.s == y.s && (x.w || y.w)
def conf (l m : List Ac) : Bool := l.any fun x => m.any fun y => hit x y
def depE (a b : Ev) : Bool := validE a && validE b && (a.ag == b.ag || creE a b || creE b a || draE a b || draE b a || conf (acc a) (acc b))

/-- The first of n that has p; -1 if none has. -/
def findF (p : Nat → Bool) : Nat → Nat → Int
  | 0, _ => -1
  | f + 1, j => bif p j then (j : Int) else findF p f (j + 1)
def findI (n : Nat) (p : Nat → Bool) : Int := findF p n 0
def allN : Nat → (Nat → Bool) → Bool
  | 0, _ => true
  | n + 1, p => allN n p && p n
theorem allN_iff {n : Nat} {p : Nat → Bool} : allN n p = true ↔ ∀ i, i < n → p i = true := by
  induction n with
  | zero => simp [allN]
  | succ n ih =>
    simp only [allN, Bool.and_eq_true, ih]
    constructor
    · rintro ⟨h1, h2⟩ i hi
      by_cases e : i = n
      · subst e; exact h2
      · exact h1 i (by omega)
    · intro h
      exact ⟨fun i hi => h i (by omega), h n (by omega)⟩
theorem findF_at {p : Nat → Bool} {x : Nat} (hx : p x = true) : ∀ (f j : Nat), j ≤ x → x < j + f → (∀ i, j ≤ i → i < x → p i = false) → findF p f j = x := by
  intro f
  induction f with
  | zero => intro j h1 h2; omega
  | succ f ih =>
    intro j h1 h2 h3
    simp only [findF]
    by_cases e : j = x
    · subst e; simp [hx]
    · rw [h3 j (Nat.le_refl _) (by omega), cond_false]
      exact ih (j + 1) (by omega) (by omega) fun i hi => h3 i (by omega)
theorem findF_none {p : Nat → Bool} : ∀ (f j : Nat), (∀ i, j ≤ i → i < j + f → p i = false) → findF p f j = -1 := by
  intro f
  induction f with
  | zero => intro j _; rfl
  | succ f ih =>
    intro j h
    simp only [findF]
    rw [h j (Nat.le_refl _) (by omega), cond_false]
    exact ih (j + 1) fun i hi hi2 => h i (by omega) (by omega)

/-! ### Shapes of contracts -/
abbrev Calling := List (Nat × (List MBlk → List SV → Option AR))
abbrev GL : List (Nat × Nat) := [(0, 0)]
def tabA (calls : Calling) (loops : List (Nat × PLoop)) : Tab := ⟨tyTab, [], calls, loops⟩
def tabG (calls : Calling) (loops : List (Nat × PLoop)) : Tab := ⟨tyTab, GL, calls, loops⟩
theorem tabOkA {calls : Calling} {loops : List (Nat × PLoop)} (h : ∀ p ∈ calls, CallOk Tryd.prog [] p.1 p.2) : TabOk Tryd.prog (tabA calls loops) := ⟨mixed, tys, fun _ _ hf => h _ (assoc_mem hf)⟩
theorem tabOkG {calls : Calling} {loops : List (Nat × PLoop)} (h : ∀ p ∈ calls, CallOk Tryd.prog GL p.1 p.2) : TabOk Tryd.prog (tabG calls loops) := ⟨mixed, tys, fun _ _ hf => h _ (assoc_mem hf)⟩

def fI1 (g : Int → SV) : List MBlk → List SV → Option AR := fun _ vs => match vs with
  | [.i .i64 n] => some ⟨[], g n, []⟩
  | _ => none
def fI2 (g : Int → Int → SV) : List MBlk → List SV → Option AR := fun _ vs => match vs with
  | [.i .i64 n, .i .i64 k] => some ⟨[], g n k, []⟩
  | _ => none
def fE1 (pre : Ev → Prop) (g : Ev → SV) : List MBlk → List SV → Option AR := fun m vs => match vs with
  | [x] => match dEv x with
    | some e => some ⟨[nth m 0 = some tbl, pre e], g e, []⟩
    | none => none
  | _ => none
def fE2 (pre : Ev → Ev → Prop) (g : Ev → Ev → SV) : List MBlk → List SV → Option AR := fun m vs => match vs with
  | [x, y] => match dEv x, dEv y with
    | some e, some d => some ⟨[nth m 0 = some tbl, pre e d], g e d, []⟩
    | _, _ => none
  | _ => none

section
variable {fid : FuncId} {fn : Func} {calls : Calling} {loops : List (Nat × PLoop)}
theorem okI1 {G : List (Nat × Nat)} (hT : TabOk Tryd.prog (tabA calls loops)) (hfn : Tryd.prog.funcs[fid]? = some fn) (hok : fnOk Tryd.prog fid) {g : Int → SV} (hg : ∀ n, (g n).ltB 0 = true) (hv : ∀ n, fnVc (tabA calls loops) fn [.i .i64 n] [] (plainIs (g n))) : CallOk Tryd.prog G fid (fI1 g) := by
  refine callOk_gen hfn hok fun m vs ar h _ => ?_
  unfold fI1 at h
  split at h
  · rename_i n
    simp only [Option.some.injEq] at h
    subst h
    exact ⟨_, hT, id, [], [.i .i64 n], fun ρ xs h => h, rfl, rfl, fun i k0 h => by simp at h, fun g i h => absurd h (by simp [tabA, assoc]), .inl ⟨rfl, hg n, hv n⟩⟩
  · cases h
theorem okI2 {G : List (Nat × Nat)} (hT : TabOk Tryd.prog (tabA calls loops)) (hfn : Tryd.prog.funcs[fid]? = some fn) (hok : fnOk Tryd.prog fid) {g : Int → Int → SV} (hg : ∀ n k, (g n k).ltB 0 = true) (hv : ∀ n k, fnVc (tabA calls loops) fn [.i .i64 n, .i .i64 k] [] (plainIs (g n k))) : CallOk Tryd.prog G fid (fI2 g) := by
  refine callOk_gen hfn hok fun m vs ar h _ => ?_
  unfold fI2 at h
  split at h
  · rename_i n k
    simp only [Option.some.injEq] at h
    subst h
    exact ⟨_, hT, id, [], [.i .i64 n, .i .i64 k], fun ρ xs h => h, rfl, rfl, fun i k0 h => by simp at h, fun g i h => absurd h (by simp [tabA, assoc]), .inl ⟨rfl, hg n k, hv n k⟩⟩
  · cases h
theorem evSV_ren (e : Ev) : renSV id (evSV e) = evSV e := rfl
theorem okE1 (hT : TabOk Tryd.prog (tabG calls loops)) (hfn : Tryd.prog.funcs[fid]? = some fn) (hok : fnOk Tryd.prog fid) {pre : Ev → Prop} {g : Ev → SV} (hg : ∀ e, (g e).ltB 0 = true) (hv : ∀ e, pre e → fnVc (tabG calls loops) fn [evSV e] [tbl] (plainIs (g e))) : CallOk Tryd.prog GL fid (fE1 pre g) := by
  refine callOk_gen hfn hok fun m vs ar h hp => ?_
  unfold fE1 at h
  split at h
  · rename_i x
    split at h
    · rename_i e he
      simp only [Option.some.injEq] at h
      subst h
      obtain rfl := dEv_some he
      have h0 : nth m 0 = some tbl := hp _ (by simp)
      refine ⟨_, hT, id, [tbl], [evSV e], fun ρ xs h => h, rfl, rfl, fun i k0 h => ?_, fun g i h => ?_, .inl ⟨rfl, hg e, hv e (hp _ (by simp))⟩⟩
      · cases i with
        | zero => simp at h; subst h; exact ⟨tbl, by rw [← nth_eq]; exact h0, rfl⟩
        | succ i => simp at h
      · cases g with
        | zero => cases h; exact ⟨by simp, rfl⟩
        | succ g => cases h
    · cases h
  · cases h
theorem okE2 (hT : TabOk Tryd.prog (tabG calls loops)) (hfn : Tryd.prog.funcs[fid]? = some fn) (hok : fnOk Tryd.prog fid) {pre : Ev → Ev → Prop} {g : Ev → Ev → SV} (hg : ∀ e d, (g e d).ltB 0 = true) (hv : ∀ e d, pre e d → fnVc (tabG calls loops) fn [evSV e, evSV d] [tbl] (plainIs (g e d))) : CallOk Tryd.prog GL fid (fE2 pre g) := by
  refine callOk_gen hfn hok fun m vs ar h hp => ?_
  unfold fE2 at h
  split at h
  · rename_i x y
    split at h
    · rename_i e d he hd
      simp only [Option.some.injEq] at h
      subst h
      obtain rfl := dEv_some he
      obtain rfl := dEv_some hd
      have h0 : nth m 0 = some tbl := hp _ (by simp)
      refine ⟨_, hT, id, [tbl], [evSV e, evSV d], fun ρ xs h => h, rfl, rfl, fun i k0 h => ?_, fun g i h => ?_, .inl ⟨rfl, hg e d, hv e d (hp _ (by simp))⟩⟩
      · cases i with
        | zero => simp at h; subst h; exact ⟨tbl, by rw [← nth_eq]; exact h0, rfl⟩
        | succ i => simp at h
      · cases g with
        | zero => cases h; exact ⟨by simp, rfl⟩
        | succ g => cases h
    · cases h
  · cases h
end
end Go.Proofs.YtbhopcgbdofcjaaDoor
