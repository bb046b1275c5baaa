/-
  A symbolic executor for the model's code: contracts over values that are read as data (numbers, pairs, lists, sets of pairs), with names for what memory holds.
-/
import Derived.Test.YtiokmglajigngaaSu16
namespace Go.Proofs.Ytiokmglajigngaa.Sx
open Go Go.RowKit
abbrev Pq := Int × Int
def nthD {α : Type} (d : α) : List α → Nat → α
  | [], _ => d
  | x :: _, 0 => x
  | _ :: r, n + 1 => nthD d r n
def mkGo {α : Type} (g : Nat → α) : Nat → Nat → List α
  | _, 0 => []
  | j, n + 1 => g j :: mkGo g (j + 1) n
def mkN {α : Type} (g : Nat → α) (n : Nat) : List α := mkGo g 0 n
inductive AV where
  | i (n : Int)
  | b (x : Bool)
  | pr (p : Pq)
  | r (N : Int) (l : List Pq)
  | ps (l : List Pq)
  | is (l : List Int)
  | bs (l : List Bool)
  | rs (l : List (List Int))
  | mp (f : Int → Int → Bool)
  | u (n : Int)
  | us (l : List Int)
  | po (N : Int) (l : List Int)
inductive AK where
  | i | b | pr | r | ps | is | bs | rs | mp | u | us | po
/-- The element types' numbers. -/
structure Els where
  ps : Nat
  is : Nat
  bs : Nat
  rs : Nat
  us : Nat := 0
def psCols (l : List Pq) : List Col := [.int .i64 (fun j => (nthD (0, 0) l j).1), .int .i64 (fun j => (nthD (0, 0) l j).2)]
def isCols (l : List Int) : List Col := [.int .i64 (nthD 0 l)]
def usCols (l : List Int) : List Col := [.int .u64 (nthD 0 l)]
def bsCols (l : List Bool) : List Col := [.bool (nthD false l)]
def rsCols (l : List (List Int)) : List Col := [.rows (fun j => (nthD [] l j).length) [fun j i => nthD 0 (nthD [] l j) i]]
def AV.len : AV → Nat
  | .r _ l => l.length
  | .ps l => l.length
  | .is l => l.length
  | .bs l => l.length
  | .rs l => l.length
  | .us l => l.length
  | .po _ l => l.length
  | _ => 0
def AV.cols : AV → List Col
  | .r _ l => psCols l
  | .ps l => psCols l
  | .is l => isCols l
  | .bs l => bsCols l
  | .rs l => rsCols l
  | .us l => usCols l
  | .po _ l => usCols l
  | _ => [.any]
def AV.el (E : Els) : AV → Nat
  | .r _ _ => E.ps
  | .ps _ => E.ps
  | .is _ => E.is
  | .bs _ => E.bs
  | .rs _ => E.rs
  | .us _ => E.us
  | .po _ _ => E.us
  | _ => 0
def AV.blk : AV → Option MBlk
  | .i _ => none
  | .u _ => none
  | .b _ => none
  | .pr _ => none
  | .mp f => some (.fmapp f)
  | .r _ l => some (.arr l.length (psCols l))
  | .ps l => some (.arr l.length (psCols l))
  | .is l => some (.arr l.length (isCols l))
  | .bs l => some (.arr l.length (bsCols l))
  | .rs l => some (.arr l.length (rsCols l))
  | .us l => some (.arr l.length (usCols l))
  | .po _ l => some (.arr l.length (usCols l))
def AV.sv (x : Nat) : AV → SV
  | .i n => .i .i64 n
  | .u n => .i .u64 n
  | .b x => .b x
  | .pr p => .agg [.i .i64 p.1, .i .i64 p.2]
  | .mp _ => .mp x
  | .r N l => .agg [.i .i64 N, .sl x l.length]
  | .ps l => .sl x l.length
  | .is l => .sl x l.length
  | .bs l => .sl x l.length
  | .rs l => .sl x l.length
  | .us l => .sl x l.length
  | .po N l => .agg [.i .i64 N, .sl x l.length]
def AV.use (a : AV) : Nat := match a.blk with
  | some _ => 1
  | none => 0
def lcVs : Nat → List AV → List SV
  | _, [] => []
  | i, a :: r => a.sv i :: lcVs (i + a.use) r
def lcMem : List AV → List MBlk
  | [] => []
  | a :: r => match a.blk with
    | some k => k :: lcMem r
    | none => lcMem r
/-- A slice's columns as data. -/
def ofCols : AK → Nat → List Col → Option AV
  | .ps, n, [.int .i64 g, .int .i64 h] => some (.ps (mkN (fun j => (g j, h j)) n))
  | .ps, 0, [.any, .any] => some (.ps [])
  | .is, n, [.int .i64 g] => some (.is (mkN g n))
  | .is, 0, [.any] => some (.is [])
  | .bs, n, [.bool g] => some (.bs (mkN g n))
  | .bs, 0, [.any] => some (.bs [])
  | .us, n, [.int .u64 g] => some (.us (mkN g n))
  | .us, 0, [.any] => some (.us [])
  | .rs, n, [.rows len [g]] => some (.rs (mkN (fun j => mkN (g j) (len j)) n))
  | .rs, 0, [.any] => some (.rs [])
  | _, _, _ => none
def emptyOf : AK → Option AV
  | .ps => some (.ps [])
  | .is => some (.is [])
  | .bs => some (.bs [])
  | .rs => some (.rs [])
  | .us => some (.us [])
  | _ => none
def rdSl (m : List MBlk) (k : AK) : SV → Option (List Prop × Option Nat × AV)
  | .nilsl => match emptyOf k with
    | some a => some ([], none, a)
    | none => none
  | .sl r n => match nth m r with
    | some b => match srcOf b with
      | some (n', cols) => match ofCols k n' cols with
        | some a => some ([n = n'], some r, a)
        | none => none
      | none => none
    | none => none
  | _ => none
/-- An argument as data: what is asked, its entry (none: it has none), the data. -/
def rdA (m : List MBlk) (k : AK) (v : SV) : Option (List Prop × Option (Option Nat) × AV) :=
  match k with
  | .i => match v with
    | .i .i64 n => some ([], none, .i n)
    | _ => none
  | .u => match v with
    | .i .u64 n => some ([], none, .u n)
    | _ => none
  | .po => match v with
    | .agg [.i .i64 N, x] => match rdSl m .us x with
      | some (ps, q, .us l) => some (ps, some q, .po N l)
      | _ => none
    | _ => none
  | .b => match bOf v with
    | some y => some ([], none, .b y)
    | none => none
  | .pr => match v with
    | .agg [.i .i64 a, .i .i64 b] => some ([], none, .pr (a, b))
    | _ => none
  | .r => match v with
    | .agg [.i .i64 N, x] => match rdSl m .ps x with
      | some (ps, q, .ps l) => some (ps, some q, .r N l)
      | _ => none
    | _ => none
  | .mp => match v with
    | .mp r => match nth m r with
      | some k => match pairSet k with
        | some f => some ([], some (some r), .mp f)
        | none => none
      | none => none
    | _ => none
  | k => match rdSl m k v with
    | some (ps, q, a) => some (ps, some q, a)
    | none => none
def rdAll (m : List MBlk) : List AK → List SV → Option (List Prop × List (Option (Option Nat)) × List AV)
  | [], [] => some ([], [], [])
  | k :: ks, v :: vs => match rdA m k v, rdAll m ks vs with
    | some (p, q, a), some (ps, qs, as) => some (p ++ ps, q :: qs, a :: as)
    | _, _ => none
  | _, _ => none
/-- The names in place of the data. -/
def nameA (nm : List (Option AV)) : Option (Option Nat) → AV → Option (List Prop × AV)
  | some (some r), a => match nth nm r with
    | some (some A) => match A, a with
      | .r _ l, .r N l' => some ([l' = l], .r N l)
      | .ps l, .ps l' => some ([l' = l], .ps l)
      | .r _ l, .ps l' => some ([l' = l], .ps l)
      | .ps l, .r N l' => some ([l' = l], .r N l)
      | .is l, .is l' => some ([l' = l], .is l)
      | .bs l, .bs l' => some ([l' = l], .bs l)
      | .rs l, .rs l' => some ([l' = l], .rs l)
      | .us l, .us l' => some ([l' = l], .us l)
      | .po _ l, .po N l' => some ([l' = l], .po N l)
      | .us l, .po N l' => some ([l' = l], .po N l)
      | .mp f, .mp f' => some ([f' = f], .mp f)
      | _, _ => none
    | _ => some ([], a)
  | _, a => some ([], a)
def nameAll (nm : List (Option AV)) : List (Option (Option Nat)) → List AV → Option (List Prop × List AV)
  | [], [] => some ([], [])
  | q :: qs, a :: as => match nameA nm q a, nameAll nm qs as with
    | some (p, a'), some (ps, as') => some (p ++ ps, a' :: as')
    | _, _ => none
  | _, _ => none
inductive RV where
  | mi (k : IntKind) (k' : Option IntKind) (f : Int → Option Int) (x : SV)
  | pl (x : SV)
  | sl (t : Nat → SV) (a : AV)
  | mp (f : Int → Int → Bool)
  | tw (x y z : SV) (l : List Int)
def RV.ok : RV → Bool
  | .mi _ _ _ x => x.ltB 0
  | .pl x => x.ltB 0
  | .sl t a => tOk (t a.len)
  | .mp _ => true
  | .tw x y z _ => x.ltB 0 && y.ltB 0 && z.ltB 0
def RV.post (E : Els) : RV → SV → List MBlk → Prop
  | .mi k k' f x => resMapi k k' f x
  | .pl x => plainIs x
  | .sl t a => resIs (t a.len) (a.el E) a.len a.cols
  | .mp f => resMap f
  | .tw x y z l => resTwo x y z E.is l.length (isCols l)
def RV.ar (E : Els) (n : Nat) (pre : List Prop) : RV → AR
  | .mi k k' f x => ⟨pre, .tup [.mp n, x], [.mapi k k' f]⟩
  | .pl x => ⟨pre, x, []⟩
  | .sl t a => ⟨pre, tinst n (t a.len), [.oarr (a.el E) a.len a.cols]⟩
  | .mp f => ⟨pre, .mp n, [.mapp f]⟩
  | .tw x y z l => ⟨pre, .tup [x, .agg [.sl (n + 1) l.length, .sl n l.length, z], y], [.oarr E.is l.length (isCols l), .gone]⟩
/-- The name of the next entry. -/
def nmNext : List (Option AV) → List MBlk → Option AV
  | [], _ => none
  | a :: _, [] => a
  | _ :: nm, _ :: m => nmNext nm m
def nameR (nm : List (Option AV)) (m : List MBlk) : RV → Option (List Prop × RV)
  | .mi k k' f x => some ([], .mi k k' f x)
  | .pl x => some ([], .pl x)
  | .sl t a => match nmNext nm m with
    | some A => match nameA [some A] (some (some 0)) a with
      | some (p, a') => some (p, .sl t a')
      | none => none
    | none => some ([], .sl t a)
  | .mp f => match nmNext nm m with
    | some (.mp f') => some ([f = f'], .mp f')
    | _ => some ([], .mp f)
  | .tw x y z l => some ([], .tw x y z l)
/-- A contract over data. -/
def genF (E : Els) (nm : List (Option AV)) (ks : List AK) (S : List AV → Option (List Prop × RV)) : List MBlk → List SV → Option AR := fun m vs => match rdAll m ks vs with
  | some (p1, qs, as) => match nameAll nm qs as with
    | some (p2, as') => match S as' with
      | some (p3, rv) => match nameR nm m rv with
        | some (p4, rv') => some (rv'.ar E m.length (p1 ++ (p2 ++ (p3 ++ p4))))
        | none => none
      | none => none
    | none => none
  | none => none
theorem mkGo_len {α : Type} (g : Nat → α) : ∀ (n j : Nat), (mkGo g j n).length = n := by
  intro n
  induction n with
  | zero => intro j; rfl
  | succ n ih => intro j; simp [mkGo, ih]
@[simp] theorem mkN_len {α : Type} (g : Nat → α) (n : Nat) : (mkN g n).length = n := mkGo_len g n 0
theorem nthD_get {α : Type} (d : α) : ∀ (l : List α) (j : Nat) (h : j < l.length), nthD d l j = l[j] := by
  intro l
  induction l with
  | nil => intro j h; simp at h
  | cons x r ih =>
    intro j h
    cases j with
    | zero => rfl
    | succ j => exact ih j (by simpa using h)
theorem nthD_out {α : Type} (d : α) : ∀ (l : List α) (j : Nat), l.length ≤ j → nthD d l j = d := by
  intro l
  induction l with
  | nil => intro j _; rfl
  | cons x r ih =>
    intro j h
    cases j with
    | zero => simp at h
    | succ j => exact ih j (by simpa using h)
theorem nthD_mkGo {α : Type} (d : α) (g : Nat → α) : ∀ (n k j : Nat), j < n → nthD d (mkGo g k n) j = g (k + j) := by
  intro n
  induction n with
  | zero => intro k j h; omega
  | succ n ih =>
    intro k j h
    cases j with
    | zero => rfl
    | succ j =>
      simp only [mkGo, nthD]
      rw [ih (k + 1) j (by omega)]
      congr 1
      omega
theorem nthD_mkN {α : Type} (d : α) (g : Nat → α) {n j : Nat} (h : j < n) : nthD d (mkN g n) j = g j := by
  unfold mkN
  rw [nthD_mkGo d g n 0 j h, Nat.zero_add]
@[simp] theorem mkN_self {α : Type} (d : α) (l : List α) : mkN (nthD d l) l.length = l := by
  apply List.ext_getElem
  · simp
  · intro j h1 h2
    rw [← nthD_get d _ _ h1, nthD_mkN d _ h2, ← nthD_get d _ _ h2]
@[simp] theorem mkN_ps (l : List Pq) : mkN (fun j => ((nthD (0, 0) l j).1, (nthD (0, 0) l j).2)) l.length = l := mkN_self (0, 0) l
def psK (l : List Pq) : List Pq := mkN (fun (j : Nat) => ((nthD ((0 : Int), (0 : Int)) l j).fst, (nthD ((0 : Int), (0 : Int)) l j).snd)) l.length
@[simp] theorem psK_eq (l : List Pq) : psK l = l := mkN_ps l
@[simp] theorem mkN_rs (l : List (List Int)) : mkN (fun j => mkN (fun i => nthD 0 (nthD [] l j) i) (nthD [] l j).length) l.length = l := by
  have : (fun j => mkN (fun i => nthD 0 (nthD [] l j) i) (nthD [] l j).length) = nthD [] l := funext fun j => mkN_self 0 _
  rw [this]
  exact mkN_self [] l
theorem ofCols_eq {k : AK} {n : Nat} {cols : List Col} {a : AV} (h : ofCols k n cols = some a) : a.len = n ∧ a.blk = some (.arr n a.cols) ∧ colsEq n a.cols cols ∧ a.cols ≠ [] ∧ ∀ x, a.sv x = .sl x n := by
  unfold ofCols at h
  split at h <;> cases h
  all_goals simp only [AV.len, AV.blk, AV.cols, AV.sv, mkN_len, List.length_nil, psCols, isCols, usCols, bsCols, rsCols, colsEq, colEq, cond_true, kEq, and_true, true_and, ne_eq, reduceCtorEq, not_false_eq_true, implies_true, Nat.not_lt_zero, false_implies, rowsEq]
  · exact ⟨fun j hj => by rw [nthD_mkN _ _ hj], fun j hj => by rw [nthD_mkN _ _ hj]⟩
  · exact fun j hj => by rw [nthD_mkN _ _ hj]
  · exact fun j hj => by rw [nthD_mkN _ _ hj]
  · exact fun j hj => by rw [nthD_mkN _ _ hj]
  · exact ⟨fun j hj => by rw [nthD_mkN _ _ hj, mkN_len], fun j hj i hi => by rw [nthD_mkN _ _ hj, mkN_len] at hi; rw [nthD_mkN _ _ hj, nthD_mkN _ _ hi]⟩
theorem ofCols_empty {k : AK} {a : AV} (h : emptyOf k = some a) : a.len = 0 ∧ a.blk = some (.arr 0 a.cols) ∧ a.cols ≠ [] ∧ ∀ x, a.sv x = .sl x 0 := by
  unfold emptyOf at h
  split at h <;> cases h <;> exact ⟨rfl, rfl, by simp [AV.cols, psCols, isCols, usCols, bsCols, rsCols], fun _ => rfl⟩
/-- What reading a slice tells. -/
theorem rdSl_ok {m : List MBlk} {k : AK} {v : SV} {ps : List Prop} {q : Option Nat} {a : AV} (h : rdSl m k v = some (ps, q, a)) (hp : ∀ p ∈ ps, p) :
    (∀ x, a.sv x = .sl x a.len) ∧ a.blk = some (.arr a.len a.cols) ∧ a.cols ≠ [] ∧ ((∃ r b cols, q = some r ∧ v = .sl r a.len ∧ m[r]? = some b ∧ srcOf b = some (a.len, cols) ∧ colsEq a.len a.cols cols) ∨ (q = none ∧ v = .nilsl ∧ a.len = 0)) := by
  unfold rdSl at h
  split at h
  · split at h
    · rename_i a' ha
      cases h
      obtain ⟨h1, h2, h3, h4⟩ := ofCols_empty ha
      exact ⟨fun x => by rw [h4, h1], by rw [h1]; exact h2, h3, .inr ⟨rfl, rfl, h1⟩⟩
    · cases h
  · rename_i r n
    split at h
    · rename_i b hb
      split at h
      · rename_i n' cols hs
        split at h
        · rename_i a' ha
          cases h
          have hn : n = n' := hp _ (by simp)
          subst hn
          obtain ⟨h1, h2, h3, h4, h5⟩ := ofCols_eq ha
          refine ⟨fun x => by rw [h1]; exact h5 x, by rw [h1]; exact h2, h4, .inl ⟨r, b, cols, rfl, by rw [h1], nthM hb, by rw [h1]; exact hs, by rw [h1]; exact h3⟩⟩
        · cases h
      · cases h
    · cases h
  · cases h
/-- One argument, read. -/
structure RdOk (m : List MBlk) (v : SV) (q : Option (Option Nat)) (a : AV) : Prop where
  use : (a.blk = none ∧ q = none) ∨ ∃ k0 q0, a.blk = some k0 ∧ q = some q0 ∧ kOk k0 ∧ memOk [k0] = true ∧ ((∃ r k, q0 = some r ∧ m[r]? = some k ∧ known k k0) ∨ (q0 = none ∧ ∃ cols, k0 = .arr 0 cols))
  den : ∀ (ρ : Env) (f : Nat → Option Nat) (x : Nat) (u : Value), (∀ q0, q = some q0 → f x = q0) → Den ρ v u → Den (pickEnv f ρ) (a.sv x) u
  lt : ∀ x n, x < n ∨ q = none → (a.sv x).ltB n = true
theorem plain_den {ρ σ : Env} {x : SV} {u : Value} (hx : x.ltB 0 = true) (h : Den ρ x u) : Den σ x u := ltB_lies hx (fun r y hr => by omega) h
theorem rdA_ok {m : List MBlk} {k : AK} {v : SV} {ps : List Prop} {q : Option (Option Nat)} {a : AV} (h : rdA m k v = some (ps, q, a)) (hp : ∀ p ∈ ps, p) : RdOk m v q a := by
  have sl : ∀ {k : AK} {v : SV} {ps : List Prop} {q : Option Nat} {a : AV}, rdSl m k v = some (ps, q, a) → (∀ p ∈ ps, p) → RdOk m v (some q) a := fun {k v ps q a} h hp => by
    obtain ⟨h1, h2, h3, h4⟩ := rdSl_ok h hp
    have hmk : memOk [MBlk.arr a.len a.cols] = true := by
      cases hc : a.cols with
      | nil => exact absurd hc h3
      | cons x r => rfl
    refine ⟨.inr ⟨_, q, h2, rfl, h3, hmk, ?_⟩, fun ρ f x u hf hd => ?_, fun x n hx => ?_⟩
    · rcases h4 with ⟨r, b, cols, rfl, _, e1, e2, e3⟩ | ⟨rfl, _, e⟩
      · exact .inl ⟨r, b, rfl, e1, cols, e2, e3⟩
      · exact .inr ⟨rfl, a.cols, by rw [e]⟩
    · rw [h1]
      rcases h4 with ⟨r, b, cols, rfl, rfl, _⟩ | ⟨rfl, rfl, e⟩
      · exact hd.slAs (hf _ rfl)
      · rw [e]; exact hd.nilAs (hf _ rfl)
    · rw [h1]
      rcases hx with hx | hx
      · simpa [SV.ltB, Nat.blt_eq] using hx
      · cases hx
  have sl' : ∀ {k : AK}, (match rdSl m k v with | some (ps, q, a) => some (ps, some q, a) | none => none) = some (ps, q, a) → RdOk m v q a := fun {k} h => by
    split at h
    · rename_i p' q' a' hr
      cases h
      exact sl hr hp
    · cases h
  cases k with
  | i =>
    simp only [rdA] at h
    split at h
    · cases h
      exact ⟨.inl ⟨rfl, rfl⟩, fun ρ f x u _ hd => plain_den rfl hd, fun _ _ _ => rfl⟩
    · cases h
  | b =>
    simp only [rdA] at h
    split at h
    · rename_i y hy
      cases h
      exact ⟨.inl ⟨rfl, rfl⟩, fun ρ f x u _ hd => by rw [hd.bOf hy]; exact .b _, fun _ _ _ => rfl⟩
    · cases h
  | pr =>
    simp only [rdA] at h
    split at h
    · cases h
      exact ⟨.inl ⟨rfl, rfl⟩, fun ρ f x u _ hd => plain_den rfl hd, fun _ _ _ => rfl⟩
    · cases h
  | r =>
    simp only [rdA] at h
    split at h
    · rename_i N x
      split at h
      · rename_i ps' q' l hr
        cases h
        obtain ⟨u1, u2, u3⟩ := sl hr hp
        refine ⟨?_, fun ρ f y u hf hd => ?_, fun y n hy => ?_⟩
        · rcases u1 with ⟨h, _⟩ | h
          · simp [AV.blk] at h
          · exact .inr h
        · obtain ⟨vs, rfl, hv⟩ := hd.agg_inv
          obtain ⟨v1, w1, rfl, d1, e1⟩ := hv.inv
          obtain ⟨v2, w2, rfl, d2, e2⟩ := e1.inv
          obtain rfl := e2.inv_nil
          have := DenL.cons (plain_den (σ := pickEnv f ρ) rfl d1) (DenL.cons (u2 ρ f y v2 hf d2) (DenL.nil _))
          exact .agg this.1 this.2
        · have := u3 y n (hy.imp id (fun h => by cases h))
          simp only [AV.sv, SV.ltB, ltL, Bool.and_true, Bool.true_and] at this ⊢
          exact this
      · cases h
    · cases h
  | u =>
    simp only [rdA] at h
    split at h
    · cases h
      exact ⟨.inl ⟨rfl, rfl⟩, fun ρ f x u _ hd => plain_den rfl hd, fun _ _ _ => rfl⟩
    · cases h
  | po =>
    simp only [rdA] at h
    split at h
    · rename_i N x
      split at h
      · rename_i ps' q' l hr
        cases h
        obtain ⟨u1, u2, u3⟩ := sl hr hp
        refine ⟨?_, fun ρ f y u hf hd => ?_, fun y n hy => ?_⟩
        · rcases u1 with ⟨h, _⟩ | h
          · simp [AV.blk] at h
          · exact .inr h
        · obtain ⟨vs, rfl, hv⟩ := hd.agg_inv
          obtain ⟨v1, w1, rfl, d1, e1⟩ := hv.inv
          obtain ⟨v2, w2, rfl, d2, e2⟩ := e1.inv
          obtain rfl := e2.inv_nil
          have := DenL.cons (plain_den (σ := pickEnv f ρ) rfl d1) (DenL.cons (u2 ρ f y v2 hf d2) (DenL.nil _))
          exact .agg this.1 this.2
        · have := u3 y n (hy.imp id (fun h => by cases h))
          simp only [AV.sv, SV.ltB, ltL, Bool.and_true, Bool.true_and] at this ⊢
          exact this
      · cases h
    · cases h
  | mp =>
    simp only [rdA] at h
    split at h
    · rename_i r
      split at h
      · rename_i k hk
        split at h
        · rename_i f hf
          cases h
          refine ⟨.inr ⟨.fmapp f, some r, rfl, rfl, trivial, rfl, .inl ⟨r, k, rfl, nthM hk, f, hf, fun _ _ => rfl⟩⟩, fun ρ g x u hg hd => ?_, fun x n hx => ?_⟩
          · obtain ⟨b, c, h1, rfl⟩ := hd.mp_inv
            exact .mp (c := c) (by simp only [pickEnv, hg _ rfl]; exact h1)
          · rcases hx with hx | hx
            · simpa [AV.sv, SV.ltB, Nat.blt_eq] using hx
            · cases hx
        · cases h
      · cases h
    · cases h
  | ps => exact sl' h
  | is => exact sl' h
  | bs => exact sl' h
  | rs => exact sl' h
  | us => exact sl' h
/-- All arguments, read: the callee's names. -/
def qsOf : List (Option (Option Nat)) → List (Option Nat)
  | [] => []
  | some q :: r => q :: qsOf r
  | none :: r => qsOf r
theorem memOk_cons {k : MBlk} {r : List MBlk} (h : memOk [k] = true) (h' : memOk r = true) : memOk (k :: r) = true := by
  cases k <;> simp only [memOk, Bool.and_true, Bool.and_eq_true] at h ⊢ <;> first | exact h' | exact ⟨h, h'⟩ | cases h
/-- From an offset on. -/
theorem rdAll_ok {m : List MBlk} : ∀ {ks : List AK} {vs : List SV} {ps : List Prop} {qs : List (Option (Option Nat))} {as : List AV}, rdAll m ks vs = some (ps, qs, as) → (∀ p ∈ ps, p) → ∀ (f : Nat → Option Nat) (i : Nat), (∀ j q, (qsOf qs)[j]? = some q → f (i + j) = q) →
    (lcMem as).length = (qsOf qs).length ∧ (∀ ρ xs, DenL ρ vs xs → DenL (pickEnv f ρ) (lcVs i as) xs) ∧ ltL (lcVs i as) (i + (lcMem as).length) = true ∧ memOk (lcMem as) = true ∧
    ∀ j k0, (lcMem as)[j]? = some k0 → (∃ r k, f (i + j) = some r ∧ m[r]? = some k ∧ known k k0) ∨ (f (i + j) = none ∧ ∃ cols, k0 = .arr 0 cols) := by
  intro ks
  induction ks with
  | nil =>
    intro vs ps qs as h _ f i _
    cases vs <;> simp only [rdAll] at h
    · cases h
      exact ⟨rfl, fun ρ xs h => h.nilc, rfl, rfl, fun j k0 h => by simp [lcMem] at h⟩
    · cases h
  | cons k ks ih =>
    intro vs ps qs as h hp f i hf
    cases vs with
    | nil => simp [rdAll] at h
    | cons v vs =>
      simp only [rdAll] at h
      split at h
      · rename_i p q a ps' qs' as' ha has
        cases h
        have hr := rdA_ok ha (fun x hx => hp x (List.mem_append.2 (.inl hx)))
        rcases hr.use with ⟨e1, e2⟩ | ⟨k0, q0, e1, e2, e3, e4, e5⟩
        · subst e2
          obtain ⟨h0, h1, h2, h3, h4⟩ := ih has (fun x hx => hp x (List.mem_append.2 (.inr hx))) f i hf
          have hu : a.use = 0 := by simp [AV.use, e1]
          have hm : lcMem (a :: as') = lcMem as' := by simp [lcMem, e1]
          rw [hm]
          refine ⟨h0, fun ρ xs hd => ?_, ?_, h3, h4⟩
          · obtain ⟨u, us, rfl, d1, d2⟩ := hd.inv
            simp only [lcVs, hu, Nat.add_zero]
            exact DenL.cons (hr.den ρ f i u (fun q0 h => by cases h) d1) (h1 ρ us d2)
          · simp only [lcVs, hu, Nat.add_zero, ltL, Bool.and_eq_true]
            exact ⟨hr.lt i _ (.inr rfl), h2⟩
        · subst e2
          have hu : a.use = 1 := by simp [AV.use, e1]
          have hm : lcMem (a :: as') = k0 :: lcMem as' := by simp [lcMem, e1]
          have hf0 : f i = q0 := by have := hf 0 q0 rfl; simpa using this
          obtain ⟨h0, h1, h2, h3, h4⟩ := ih has (fun x hx => hp x (List.mem_append.2 (.inr hx))) f (i + 1) (fun j q hq => by rw [Nat.add_assoc, Nat.add_comm 1]; exact hf (j + 1) q (by simpa [qsOf] using hq))
          rw [hm]
          refine ⟨by simp [qsOf, h0], fun ρ xs hd => ?_, ?_, ?_, fun j k1 hk1 => ?_⟩
          · obtain ⟨u, us, rfl, d1, d2⟩ := hd.inv
            simp only [lcVs, hu]
            exact DenL.cons (hr.den ρ f i u (fun q h => by cases h; exact hf0) d1) (h1 ρ us d2)
          · simp only [lcVs, hu, ltL, Bool.and_eq_true, List.length_cons]
            exact ⟨hr.lt i _ (.inl (by omega)), by rw [show i + ((lcMem as').length + 1) = i + 1 + (lcMem as').length by omega]; exact h2⟩
          · exact memOk_cons e4 h3
          · cases j with
            | zero =>
              simp at hk1
              subst hk1
              simp only [Nat.add_zero, hf0]
              exact e5
            | succ j =>
              have := h4 j k1 (by simpa using hk1)
              rw [show i + 1 + j = i + (j + 1) by omega] at this
              exact this
      · cases h
section
variable {P : Program} {E : Els} {G : List (Nat × Nat)} {fid : FuncId} {fn : Func}
/-- **A contract over data out of a condition.** -/
theorem genOk {ks : List AK} {S : List AV → Option (List Prop × RV)} (hfn : P.funcs[fid]? = some fn) (hok : fnOk P fid) (hres : ∀ as pre rv, S as = some (pre, rv) → rv.ok = true ∧ (∀ t a, rv = .sl t a → a.cols ≠ []))
    (hv : ∀ as pre rv, S as = some (pre, rv) → (∀ p ∈ pre, p) → ∃ (T : Tab) (_ : TabOk P T), T.globals = [] ∧ T.pins = [] ∧ fnVc T fn (lcVs 0 as) (lcMem as) (rv.post E)) : CallOk P G fid (genF E [] ks S) := by
  refine callOk_nil hfn hok fun m vs ar h hp => ?_
  unfold genF at h
  split at h
  · rename_i p1 qs as hr
    have hnm : ∀ (qs : List (Option (Option Nat))) (as : List AV) (p : List Prop) (as' : List AV), nameAll [] qs as = some (p, as') → p = [] ∧ as' = as := by
      intro qs
      induction qs with
      | nil => intro as p as' h; cases as <;> simp [nameAll] at h; exact h
      | cons q qs ih =>
        intro as p as' h
        cases as with
        | nil => simp [nameAll] at h
        | cons a as =>
          have h0 : nameA [] q a = some ([], a) := by cases q with | none => rfl | some q => cases q <;> simp [nameA, nth]
          simp only [nameAll, h0] at h
          split at h
          · rename_i p2 a2 ps as2 h1 h2
            cases h1
            cases h
            obtain ⟨e1, e2⟩ := ih as _ _ h2
            subst e1 e2
            exact ⟨rfl, rfl⟩
          · cases h
    split at h
    · rename_i p2 as' hn
      obtain ⟨rfl, rfl⟩ := hnm _ _ _ _ hn
      split at h
      · rename_i p3 rv hS
        split at h
        · rename_i p4 rv' hrv
          have hrv2 : rv' = rv ∧ p4 = [] := by
            cases rv <;> simp [nameR, nmNext] at hrv <;> exact ⟨hrv.2.symm, hrv.1⟩
          obtain ⟨rfl, rfl⟩ := hrv2
          cases h
          have hpre : (rv'.ar E m.length (p1 ++ ([] ++ (p3 ++ [])))).pre = p1 ++ ([] ++ (p3 ++ [])) := by cases rv' <;> rfl
          rw [hpre] at hp
          have hp1 : ∀ p ∈ p1, p := fun p h => hp p (by simp [h])
          have hp3 : ∀ p ∈ p3, p := fun p h => hp p (by simp [h])
          obtain ⟨T, hT, hg, hpn, hvc⟩ := hv _ _ _ hS hp3
          let f : Nat → Option Nat := fun i => (nthD none (qsOf qs) i)
          have hf : ∀ j q, (qsOf qs)[j]? = some q → f (0 + j) = q := fun j q hq => by
            have hj := (List.getElem?_eq_some_iff.1 hq).1
            simp only [f, Nat.zero_add]
            rw [nthD_get none _ _ hj]
            rw [List.getElem?_eq_getElem hj] at hq
            exact Option.some.inj hq
          obtain ⟨_, h1, h2, h3, h4⟩ := rdAll_ok hr hp1 f 0 hf
          obtain ⟨o1, o2⟩ := hres _ _ _ hS
          refine ⟨T, hT, f, lcMem as', lcVs 0 as', fun ρ xs hd => h1 ρ xs hd, by simpa using h2, h3, fun i k0 hk => by simpa using h4 i k0 hk, fun g i hi => (by rw [hg] at hi; cases hi), hpn, ?_⟩
          cases rv' with
          | pl x => exact .inl ⟨rfl, o1, hvc⟩
          | sl t a => exact .inr (.inl ⟨t a.len, a.el E, a.len, a.cols, o1, List.length_pos_iff.2 (o2 t a rfl), rfl, rfl, hvc⟩)
          | mp f => exact .inr (.inr (.inl ⟨f, rfl, rfl, hvc⟩))
          | tw x y z l =>
            simp only [RV.ok, Bool.and_eq_true] at o1
            exact .inr (.inr (.inr ⟨_, fun n => .tup [x, .agg [.sl (n + 1) l.length, .sl n l.length, z], y], post_two o1.1.1 o1.1.2 o1.2 (by simp [isCols]), rfl, hvc⟩))
          | mi k k' f x => exact .inr (.inr (.inr ⟨resMapi k k' f x, fun n => .tup [.mp n, x], post_mapi o1, rfl, hvc⟩))
        · cases h
      · cases h
    · cases h
  · cases h
theorem nameA_eq {nm : List (Option AV)} {q : Option (Option Nat)} {a a' : AV} {p : List Prop} (h : nameA nm q a = some (p, a')) (hp : ∀ x ∈ p, x) : a' = a := by
  unfold nameA at h
  split at h
  · split at h
    · split at h <;> first | cases h | skip
      all_goals
        have e := hp _ (List.mem_singleton.2 rfl)
        subst e
        rfl
    · cases h; rfl
  · cases h; rfl
theorem nameAll_eq {nm : List (Option AV)} : ∀ {qs : List (Option (Option Nat))} {as as' : List AV} {p : List Prop}, nameAll nm qs as = some (p, as') → (∀ x ∈ p, x) → as' = as := by
  intro qs
  induction qs with
  | nil => intro as as' p h _; cases as <;> simp [nameAll] at h; exact h.2
  | cons q qs ih =>
    intro as as' p h hp
    cases as with
    | nil => simp [nameAll] at h
    | cons a as =>
      simp only [nameAll] at h
      split at h
      · rename_i p1 a1 ps as1 h1 h2
        cases h
        rw [nameA_eq h1 (fun x hx => hp x (List.mem_append.2 (.inl hx))), ih h2 (fun x hx => hp x (List.mem_append.2 (.inr hx)))]
      · cases h
theorem nameR_eq {nm : List (Option AV)} {m : List MBlk} {rv rv' : RV} {p : List Prop} (h : nameR nm m rv = some (p, rv')) (hp : ∀ x ∈ p, x) : rv' = rv := by
  cases rv with
  | mi k k' f x => simp [nameR] at h; exact h.2.symm
  | tw x y z l => simp [nameR] at h; exact h.2.symm
  | pl x => simp [nameR] at h; exact h.2.symm
  | sl t a =>
    simp only [nameR] at h
    split at h
    · split at h
      · rename_i h1
        cases h
        rw [nameA_eq h1 hp]
      · cases h
    · cases h; rfl
  | mp f =>
    simp only [nameR] at h
    split at h
    · cases h
      have e := hp _ (List.mem_singleton.2 rfl)
      rw [e]
    · cases h; rfl
/-- The same with names. -/
theorem genNm {ks : List AK} {S : List AV → Option (List Prop × RV)} {nm : List (Option AV)} (h : CallOk P G fid (genF E [] ks S)) : CallOk P G fid (genF E nm ks S) := by
  refine ⟨h.fn, fun ρ W m vs xs ar h1 h2 h3 h4 h5 h6 h7 => ?_⟩
  unfold genF at h6
  split at h6
  · rename_i p1 qs as hr
    split at h6
    · rename_i p2 as' hn
      split at h6
      · rename_i p3 rv hS
        split at h6
        · rename_i p4 rv' hrv
          cases h6
          have hpre : (rv'.ar E m.length (p1 ++ (p2 ++ (p3 ++ p4)))).pre = p1 ++ (p2 ++ (p3 ++ p4)) := by cases rv' <;> rfl
          rw [hpre] at h7
          have e1 := nameAll_eq hn (fun x hx => h7 x (by simp [hx]))
          have e2 := nameR_eq hrv (fun x hx => h7 x (by simp [hx]))
          subst e1 e2
          have key : genF E [] ks S m vs = some (rv'.ar E m.length (p1 ++ ([] ++ (p3 ++ [])))) := by
            have hnm : ∀ (qs : List (Option (Option Nat))) (as : List AV), qs.length = as.length → nameAll [] qs as = some ([], as) := by
              intro qs
              induction qs with
              | nil => intro as h; cases as <;> simp at h; rfl
              | cons q qs ih =>
                intro as h
                cases as with
                | nil => simp at h
                | cons a as =>
                  have h0 : nameA [] q a = some ([], a) := by cases q with | none => rfl | some q => cases q <;> simp [nameA, nth]
                  simp only [nameAll, h0, ih as (by simpa using h), List.append_nil]
            have hlen : ∀ {nm : List (Option AV)} {qs : List (Option (Option Nat))} {as as' : List AV} {p : List Prop}, nameAll nm qs as = some (p, as') → qs.length = as.length := by
              intro nm qs
              induction qs with
              | nil => intro as as' p h; cases as <;> simp [nameAll] at h; rfl
              | cons q qs ih =>
                intro as as' p h
                cases as with
                | nil => simp [nameAll] at h
                | cons a as =>
                  simp only [nameAll] at h
                  split at h
                  · rename_i h2; simp [ih h2]
                  · cases h
            have hR : nameR [] m rv' = some ([], rv') := by cases rv' <;> rfl
            unfold genF
            rw [hr]
            simp only [hnm _ _ (hlen hn), hS, hR]
          have a1 : (rv'.ar E m.length (p1 ++ ([] ++ (p3 ++ [])))).sv = (rv'.ar E m.length (p1 ++ (p2 ++ (p3 ++ p4)))).sv := by cases rv' <;> rfl
          have a2 : (rv'.ar E m.length (p1 ++ ([] ++ (p3 ++ [])))).new = (rv'.ar E m.length (p1 ++ (p2 ++ (p3 ++ p4)))).new := by cases rv' <;> rfl
          have a3 : (rv'.ar E m.length (p1 ++ ([] ++ (p3 ++ [])))).pre = p1 ++ ([] ++ (p3 ++ [])) := by cases rv' <;> rfl
          rw [← a1, ← a2]
          exact h.ok ρ W m vs xs _ h1 h2 h3 (by rw [a2]; exact h4) h5 key (fun p hp => by rw [a3] at hp; exact h7 p (by simp at hp; rcases hp with hp | hp <;> simp [hp]))
        · cases h6
      · cases h6
    · cases h6
  · cases h6
end
end Go.Proofs.Ytiokmglajigngaa.Sx
