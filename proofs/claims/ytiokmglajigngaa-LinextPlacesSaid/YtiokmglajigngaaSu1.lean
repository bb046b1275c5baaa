/-
  A symbolic executor for the model's code: the definitions. A symbolic value stands for a value of the model; the executor walks a function's body over symbolic values and yields a proposition (the condition to be shown). Nothing here is about one program.
-/
import Derived.WalkKit
import Derived.OrdersHeld
namespace Go.Proofs.Ytiokmglajigngaa.Sx
open Go Go.RowKit
/-- Symbolic values. An entry number r points into the list of known blocks. -/
inductive SV where
  | tt | ff | nilsl | nilptr | nilmap | dead
  | b (x : Bool)
  | i (k : IntKind) (n : Int)
  | ptr (r off : Nat)
  | pix (r sz ix off : Nat)
  | sl (r n : Nat)
  | sub (r sz lo n : Nat)
  | mp (r : Nat)
  | agg (xs : List SV)
  | tup (xs : List SV)
  | fn (f : Nat) (xs : List SV)
  | v (x : Value)
/-- One column of a slice's cells: what cell j of each element holds. -/
inductive Col where
  | int (k : IntKind) (g : Nat → Int)
  | bool (g : Nat → Bool)
  | rows (len : Nat → Nat) (gs : List (Nat → Nat → Int))
  | any
/-- Known memory. -/
inductive MBlk where
  | cells (cs : List SV)
  | old (cs : List SV)
  | arr (n : Nat) (cols : List Col)
  | oarr (e n : Nat) (cols : List Col)
  | mapi (k : IntKind) (k' : Option IntKind) (f : Int → Option Int)
  | mapp (f : Int → Int → Bool)
  | fmapp (f : Int → Int → Bool)
  | iterp (left : Int → Int → Bool) (cur : Option (Int × Int))
  | orows (e e' n : Nat) (hole link : Option Nat) (len : Nat → Nat) (gs : List (Nat → Nat → Int))
  | gone
structure Slot where
  ch : List (Nat × Bool)
  sv : SV
structure St where
  slots : List Slot
  mem : List MBlk
  dirty : List Nat
inductive Ex where
  | normal | ret | exit (id : Nat)
/-- What is known of a type. kind: 0 one cell, 1 struct, 2 array, 3 slice, 4 map, 5 bool. -/
structure TI where
  kind : Nat
  size : Nat
  bytes : Nat
  zero : List SV
  offs : List (Nat × Nat)
  elem : Nat
  len : Nat
  ik : Option IntKind
  eqk : Option (List (Option IntKind))
  fagg : List Bool := []
/-- A loop's annotation: what its head's state is, as a function of a ghost. -/
structure LAnn where
  X : Type
  inv : X → Prop
  slots : X → List (Nat × SV)
  mem : X → List (Nat × MBlk)
  mu : X → Nat
  kill : List Nat := []
  ren : List (Nat × Nat) := []
/-- A loop's annotations: one for each choice of what stays fixed while it runs. -/
structure PLoop where
  Y : Type
  ann : Y → LAnn
def PLoop.of (L : LAnn) : PLoop := ⟨Unit, fun _ => L⟩
/-- What an operation that changes no known memory gives: what is asked, the value, the new entries. -/
structure AR where
  pre : List Prop
  sv : SV
  new : List MBlk
/-- What an operation that changes known memory gives. -/
structure BRes where
  pre : List Prop
  sv : SV
  kill : List Nat
  upd : List (Nat × MBlk)
  new : List MBlk := []
/-- What is said of memory anew ahead of a region: row ix of entry r is taken out; cell off of variable r, which holds nil, is a slice of its own (element type e, w cells); the slice of the run's own in entry r does not turn any more. -/
inductive Gh where
  | take (r ix : Nat)
  | fresh (r off e w : Nat)
  | freeze (r : Nat)
  | cols (r : Nat) (cs : List Col)
structure Tab where
  types : List (Nat × TI)
  globals : List (Nat × Nat)
  calls : List (Nat × (List MBlk → List SV → Option AR))
  loops : List (Nat × PLoop)
  callsB : List (Nat × (List MBlk → List SV → Option BRes)) := []
  pins : List (Nat × (Option Addr × Nat)) := []
  takes : List (Nat × (List Slot → List MBlk → List Gh)) := []
  sure : List Nat := []
/-- The entries whose place must stay. -/
def pinIx : List (Nat × (Option Addr × Nat)) → List Nat
  | [] => []
  | p :: r => p.1 :: pinIx r
def protOf : List (Nat × Nat) → List (Nat × (Option Addr × Nat)) → List Nat
  | [], ps => pinIx ps
  | g :: r, ps => g.2 :: protOf r ps
def prot (T : Tab) : List Nat := protOf T.globals T.pins
universe u
section basics
variable {α : Type u}
def assoc : List (Nat × α) → Nat → Option α
  | [], _ => none
  | (k, x) :: r, n => bif Nat.beq k n then some x else assoc r n
def nth : List α → Nat → Option α
  | [], _ => none
  | x :: _, 0 => some x
  | _ :: r, n + 1 => nth r n
def setAt : List α → Nat → α → List α
  | [], _, _ => []
  | _ :: r, 0, y => y :: r
  | x :: r, n + 1, y => x :: setAt r n y
def takeN : Nat → List α → Option (List α)
  | 0, _ => some []
  | n + 1, x :: r => (takeN n r).map (x :: ·)
  | _ + 1, [] => none
def dropN : Nat → List α → List α
  | 0, l => l
  | n + 1, _ :: r => dropN n r
  | _ + 1, [] => []
/-- vs written over the cells from place off on. -/
def writeAt : List α → Nat → List α → Option (List α)
  | cs, 0, [] => some cs
  | _ :: r, 0, v :: vs => (writeAt r 0 vs).map (v :: ·)
  | x :: r, n + 1, vs => (writeAt r n vs).map (x :: ·)
  | [], 0, _ :: _ => none
  | [], _ + 1, _ => none
end basics
def memN : Nat → List Nat → Bool
  | _, [] => false
  | n, x :: r => Nat.beq n x || memN n r
def kEq : IntKind → IntKind → Bool
  | .i8, .i8 => true
  | .i16, .i16 => true
  | .i32, .i32 => true
  | .i64, .i64 => true
  | .u8, .u8 => true
  | .u16, .u16 => true
  | .u32, .u32 => true
  | .u64, .u64 => true
  | _, _ => false
def ofV : Value → SV
  | .bool true => .tt
  | .bool false => .ff
  | .int k n => .i k n
  | .slice none 0 0 => .nilsl
  | .pointer none => .nilptr
  | .map none => .nilmap
  | x => .v x
def bOf : SV → Option Bool
  | .tt => some true
  | .ff => some false
  | .b x => some x
  | _ => none
def colAt : Col → Nat → SV
  | .int k g, j => .i k (g j)
  | .bool g, j => .b (g j)
  | .rows _ _, _ => .dead
  | .any, _ => .dead
def colsAt : List Col → Nat → List SV
  | [], _ => []
  | c :: r, j => colAt c j :: colsAt r j
def inCh (x : Nat × Bool) : List (Nat × Bool) → Bool
  | [] => false
  | y :: r => (Nat.beq x.1 y.1 && (x.2 == y.2)) || inCh x r
def subCh : List (Nat × Bool) → List (Nat × Bool) → Bool
  | [], _ => true
  | x :: r, c => inCh x c && subCh r c
def getOp (T : Tab) (sl : List Slot) : Operand → Option Slot
  | .tmp t => nth sl t
  | .const x => some ⟨[], ofV x⟩
  | .global g => match assoc T.globals g with
    | some r => some ⟨[], .ptr r 0⟩
    | none => none
  | .func f => some ⟨[], .fn f []⟩
/-- The operand's symbolic value, where what it hangs on (its chain) is among what is known to hold. -/
def useOp (T : Tab) (sl : List Slot) (c : List (Nat × Bool)) (x : Operand) : Option SV :=
  match getOp T sl x with
  | some s => bif subCh s.ch c then some s.sv else none
  | none => none
def useAll (T : Tab) (sl : List Slot) (c : List (Nat × Bool)) : List Operand → Option (List SV)
  | [] => some []
  | x :: r => match useOp T sl c x, useAll T sl c r with
    | some v, some vs => some (v :: vs)
    | _, _ => none
def useParts (T : Tab) (sl : List Slot) (c : List (Nat × Bool)) : List (Nat × Operand) → Option (List (Nat × SV))
  | [] => some []
  | (k, x) :: r => match useOp T sl c x, useParts T sl c r with
    | some v, some vs => some ((k, v) :: vs)
    | _, _ => none
/-- Whether a value is one cell of a known kind. -/
def oneCell : SV → Bool
  | .tt | .ff | .nilsl | .nilptr | .nilmap | .b _ | .i _ _ | .ptr _ _ | .pix _ _ _ _ | .sl _ _ | .sub _ _ _ _ | .mp _ | .fn _ _ => true
  | _ => false
/-- A value's cells. -/
def cellsOf : SV → Option (List SV)
  | .agg xs => some xs
  | x => bif oneCell x then some [x] else none
def allOne : List SV → Bool
  | [] => true
  | x :: r => oneCell x && allOne r
def binInt (op : BinOp) (k : IntKind) (x y : Int) : Option (List Prop × SV) :=
  match op with
  | .add => some ([], .i k (k.wrap (x + y)))
  | .sub => some ([], .i k (k.wrap (x - y)))
  | .mul => some ([], .i k (k.wrap (x * y)))
  | .quo => some ([y ≠ 0], .i k (k.wrap (x.tdiv y)))
  | .rem => some ([y ≠ 0], .i k (x.tmod y))
  | .and => some ([], .i k (bits .and k x y))
  | .or => some ([], .i k (bits .or k x y))
  | .xor => some ([], .i k (bits .xor k x y))
  | .andNot => some ([], .i k (bits .andNot k x y))
  | .eql => some ([], .b (x == y))
  | .neq => some ([], .b (x != y))
  | .lss => some ([], .b (decide (x < y)))
  | .leq => some ([], .b (decide (x ≤ y)))
  | .gtr => some ([], .b (decide (x > y)))
  | .geq => some ([], .b (decide (x ≥ y)))
  | _ => none
/-- Whether two cells are equal: numbers of a kind, or booleans. -/
def eqCell : Option IntKind → SV → SV → Option Bool
  | some k, .i k' a, .i k'' b => bif kEq k k' && kEq k k'' then some (a == b) else none
  | none, x, y => match bOf x, bOf y with
    | some a, some b => some (a == b)
    | _, _ => none
  | _, _, _ => none
/-- Whether two structs' or arrays' cells are equal. -/
def eqCells : List (Option IntKind) → List SV → List SV → Option Bool
  | [], [], [] => some true
  | [k], [x], [y] => eqCell k x y
  | k :: ks, x :: xs, y :: ys => match eqCell k x y, eqCells ks xs ys with
    | some p, some q => some (p && q)
    | _, _ => none
  | _, _, _ => none
/-- The two arms of a choice as one value. -/
def merge (c : Bool) (x y : SV) : Option SV :=
  match x, y with
  | .i k a, .i k' b => bif kEq k k' then some (.i k (bif c then a else b)) else none
  | .tt, y => match bOf y with
    | some b => some (.b (c || b))
    | none => none
  | x, .ff => match bOf x with
    | some a => some (.b (c && a))
    | none => none
  | x, y => match bOf x, bOf y with
    | some a, some b => some (.b (bif c then a else b))
    | _, _ => none
def loadAt (ti : TI) (cs : List SV) (off : Nat) : Option SV :=
  bif (Nat.beq ti.kind 1 || Nat.beq ti.kind 2) then (takeN ti.size (dropN off cs)).map .agg else nth cs off
def fillParts (offs : Nat → Option (Nat × Nat)) : List SV → List (Nat × SV) → Option (List SV)
  | cs, [] => some cs
  | cs, (k, v) :: r => match offs k, cellsOf v with
    | some o, some vs => bif Nat.beq vs.length o.2 then (match writeAt cs o.1 vs with
      | some cs' => fillParts offs cs' r
      | none => none) else none
    | _, _ => none
/-- A column out of a list of values: element j holds the j-th. -/
def pickI : List Int → Nat → Int
  | [], _ => 0
  | [x], _ => x
  | x :: r, j => bif Nat.beq j 0 then x else pickI r (j - 1)
def pickB : List Bool → Nat → Bool
  | [], _ => false
  | [x], _ => x
  | x :: r, j => bif Nat.beq j 0 then x else pickB r (j - 1)
def allI (k : IntKind) : List SV → Option (List Int)
  | [] => some []
  | .i k' n :: r => bif kEq k k' then (allI k r).map (n :: ·) else none
  | _ => none
def allB : List SV → Option (List Bool)
  | [] => some []
  | x :: r => match bOf x, allB r with
    | some b, some l => some (b :: l)
    | _, _ => none
def colOf : List SV → Col
  | [] => .any
  | .i k n :: r => match allI k (.i k n :: r) with
    | some l => .int k (pickI l)
    | none => .any
  | l => match allB l with
    | some l => .bool (pickB l)
    | none => .any
/-- Every sz-th cell from k on, n of them. -/
def strideL (cs : List SV) (sz : Nat) : Nat → Nat → List SV
  | _, 0 => []
  | k, n + 1 => (match nth cs k with | some v => v | none => .dead) :: strideL cs sz (k + sz) n
def flatCols (cs : List SV) (sz len : Nat) : Nat → Nat → List Col
  | _, 0 => []
  | k, n + 1 => colOf (strideL cs sz k len) :: flatCols cs sz len (k + 1) n
def repL (z : List SV) : Nat → List SV
  | 0 => []
  | n + 1 => z ++ repL z n
def copies {α : Type} : Nat → α → List α
  | 0, _ => []
  | n + 1, x => x :: copies n x
def bin (T : Tab) (t : Nat) (op : BinOp) (x y : SV) : Option (List Prop × SV) :=
  match x, y with
  | .i k a, .i k' b => match op with
    | .shl => some ([0 ≤ b ∧ b ≤ (k.bits : Int)], .i k (k.wrap (a * 2 ^ b.toNat)))
    | .shr => some ([0 ≤ b ∧ b ≤ (k.bits : Int)], .i k (a / 2 ^ b.toNat))
    | op => bif kEq k k' then binInt op k a b else none
  | .sl _ n, .nilsl => match op, assoc T.types t with
    | .eql, some ti => bif Nat.beq ti.kind 3 then some ([0 < n], .ff) else none
    | _, _ => none
  | .nilsl, .nilsl => match op, assoc T.types t with
    | .eql, some ti => bif Nat.beq ti.kind 3 then some ([], .tt) else none
    | _, _ => none
  | x, y => match bOf x, bOf y, assoc T.types t with
    | some a, some b, some ti => bif Nat.beq ti.kind 5 then (match op with
      | .eql => some ([], .b (a == b))
      | .neq => some ([], .b (!(a == b)))
      | _ => none) else none
    | _, _, _ => none
def optA : Option SV → Option AR
  | some v => some ⟨[], v, []⟩
  | none => none
def notB : SV → Option SV
  | .tt => some .ff
  | .ff => some .tt
  | .b x => some (.b (!x))
  | _ => none
/-- Whether an argument's type is a slice. -/
def isSlice (T : Tab) (ts : List Nat) : Bool :=
  match ts with
  | t :: _ => match assoc T.types t with
    | some ti => Nat.beq ti.kind 3
    | none => false
  | [] => false
/-- The builtin functions that change no known memory. -/
def stepBuiltin (T : Tab) (b : Builtin) (ts : List Nat) (vs : List SV) : Option AR :=
  match b, vs with
  | .len, [.sl _ n] => bif isSlice T ts then some ⟨[], .i .i64 n, []⟩ else none
  | .len, [.sub _ _ _ n] => bif isSlice T ts then some ⟨[], .i .i64 n, []⟩ else none
  | .len, [.nilsl] => bif isSlice T ts then some ⟨[], .i .i64 0, []⟩ else none
  | .max, [.i k x, .i k' y] => bif kEq k k' then some ⟨[], .i k (if y > x then y else x), []⟩ else none
  | .min, [.i k x, .i k' y] => bif kEq k k' then some ⟨[], .i k (if y < x then y else x), []⟩ else none
  | _, _ => none
/-- The columns of one row out of a column of rows. -/
def rowCols : List (Nat → Nat → Int) → Nat → List Col
  | [], _ => []
  | g :: r, ix => .int .i64 (g ix) :: rowCols r ix
/-- A slice loaded out of a column of rows: an entry of its own. -/
def loadRow (ti : TI) (cols : List Col) (ix off base : Nat) : Option (SV × List MBlk) :=
  bif Nat.beq ti.kind 3 then (match nth cols off with
    | some (.rows len gs) => some (.sl base (len ix), [.arr (len ix) (rowCols gs ix)])
    | _ => none) else none
/-- A load out of element ix of a slice of n elements. -/
def loadPix (ti : TI) (n : Nat) (cols : List Col) (sz ix off base : Nat) : Option AR :=
  bif Nat.beq sz cols.length then (match loadRow ti cols ix off base with
    | some p => some ⟨[ix < n], p.1, p.2⟩
    | none => match loadAt ti (colsAt cols ix) off with
      | some v => some ⟨[ix < n], v, []⟩
      | none => none) else none
/-- A slice's elements, as a source: how many, its columns. -/
def srcOf : MBlk → Option (Nat × List Col)
  | .arr n cols => some (n, cols)
  | .oarr _ n cols => some (n, cols)
  | _ => none
def ownArr : MBlk → Bool
  | .oarr _ _ _ => true
  | _ => false
/-- A slice of a slice. -/
def sliceOp (m : List MBlk) (te : TI) (v : SV) (lo hi : Option SV) : Option AR :=
  match v with
  | .sl r n => match nth m r with
    | some kq => match srcOf kq with
      | some (n', _) => match lo, hi with
        | none, none => some ⟨[n = n'], .sub r te.size 0 n, []⟩
        | some (.i _ l), none => some ⟨[n = n', 0 ≤ l, l ≤ n], .sub r te.size l.toNat (n - l.toNat), []⟩
        | none, some (.i _ b) => bif ownArr kq then none else some ⟨[n = n', 0 ≤ b, b ≤ n], .sub r te.size 0 b.toNat, []⟩
        | some (.i _ l), some (.i _ b) => some ⟨[n = n', 0 ≤ l, l ≤ b, b ≤ n], .sub r te.size l.toNat (b.toNat - l.toNat), []⟩
        | _, _ => none
      | none => none
    | none => none
  | _ => none
def val0 : Option Int → Int
  | some v => v
  | none => 0
def isS : Option Int → Bool
  | some _ => true
  | none => false
/-- The kinds of a map's keys and values: numbers, or booleans (none). -/
def mapKinds (T : Tab) (t : Nat) : Option (IntKind × Option IntKind) :=
  match assoc T.types t with
  | some ti => bif Nat.beq ti.kind 4 then (match assoc T.types ti.elem, assoc T.types ti.len with
    | some tk, some tv => match tk.ik, tv.ik, tv.zero with
      | some k, some k', [.i q (.ofNat 0)] => bif Nat.beq tk.kind 0 && Nat.beq tv.kind 0 && kEq q k' then some (k, some k') else none
      | some k, none, [.ff] => bif Nat.beq tk.kind 0 && Nat.beq tv.kind 5 then some (k, none) else none
      | _, _, _ => none
    | _, _ => none) else none
  | none => none
def oEq : Option IntKind → Option IntKind → Bool
  | some k, some k' => kEq k k'
  | none, none => true
  | _, _ => false
/-- A map's value, as it is looked up. -/
def svV : Option IntKind → Int → SV
  | some k, v => .i k v
  | none, v => .b (v != 0)
/-- A map's value, as it is stored. -/
def valOf : Option IntKind → SV → Option Int
  | some k, .i q v => bif kEq k q then some v else none
  | none, x => match bOf x with
    | some b => some (bif b then 1 else 0)
    | none => none
  | _, _ => none
/-- The map's keys are pairs of numbers, its values booleans. -/
def mapPair (T : Tab) (t : Nat) : Bool :=
  match assoc T.types t with
  | some ti => bif Nat.beq ti.kind 4 then (match assoc T.types ti.elem, assoc T.types ti.len with
    | some tk, some tv => match tk.eqk, tv.zero with
      | some [some .i64, some .i64], [.ff] => Nat.beq tk.kind 2 && Nat.beq tk.len 2 && Nat.beq tv.kind 5
      | _, _ => false
    | _, _ => false) else false
  | none => false
/-- A key that is a pair. -/
def pairOf : SV → Option (Int × Int)
  | .agg [.i .i64 a, .i .i64 b] => some (a, b)
  | _ => none
/-- A map of pairs, as what may be looked up. -/
def pairSet : MBlk → Option (Int → Int → Bool)
  | .mapp f => some f
  | .fmapp f => some f
  | _ => none
def useOpt (T : Tab) (sl : List Slot) (c : List (Nat × Bool)) : Option Operand → Option (Option SV)
  | none => some none
  | some x => match useOp T sl c x with
    | some v => some (some v)
    | none => none
/-- The columns of n elements that are zero. -/
def zeroCol : SV → Col
  | .ff => .bool (fun _ => false)
  | .i k n => .int k (fun _ => n)
  | .nilsl => .rows (fun _ => 0) []
  | _ => .any
def zeroCols : List SV → List Col
  | [] => []
  | z :: r => zeroCol z :: zeroCols r
/-- n elements that are zero. -/
def madeOf (e : Nat) (te : TI) (n : Nat) : MBlk :=
  match te.zero with
  | [.nilsl] => bif Nat.blt 0 te.len then .orows e te.elem n none none (fun _ => 0) (copies te.len (fun _ _ => 0)) else .oarr e n (zeroCols te.zero)
  | _ => .oarr e n (zeroCols te.zero)
/-- An index that is written as a number, into a variable's cells. -/
def cellIx (m : List MBlk) (r : Nat) (y : Operand) : Option Nat :=
  match nth m r, y with
  | some (.cells _), .const (.int _ (.ofNat k)) => some k
  | some (.old _), .const (.int _ (.ofNat k)) => some k
  | _, _ => none
/-- What is called: a function, and what it has captured. -/
def calleeOf (T : Tab) (sl : List Slot) (c : List (Nat × Bool)) : Callee → Option (Nat × List SV)
  | .value x => match useOp T sl c x with
    | some (.fn f xs) => some (f, xs)
    | _ => none
  | _ => none
/-- One field of a struct's value. -/
def fieldOf (ti : TI) (xs : List SV) (k : Nat) : Option SV :=
  match nth ti.offs k, nth ti.fagg k with
  | some o, some true => (takeN o.2 (dropN o.1 xs)).map .agg
  | some o, some false => bif Nat.beq o.2 1 then nth xs o.1 else none
  | _, _ => none
/-- Whether literals of one row are to be made ahead of the row's freezing. -/
def lateRows (T : Tab) : Bool := memN 1000000 T.sure
/-- A literal of one row: the row stays where it is. -/
def rowLit (T : Tab) (sl : List Slot) (m : List MBlk) (c : List (Nat × Bool)) (t len : Nat) (ps : Array (Nat × Operand)) : Option AR :=
  bif lateRows T then (match assoc T.types t, useParts T sl c ps.toList with
    | some ti, some [(0, .sl q n)] => match assoc T.types ti.elem with
      | some te => bif Nat.beq len 1 && Nat.beq ti.kind 3 && Nat.beq te.kind 3 && Nat.beq te.size 1 && Nat.beq te.zero.length 1 && Nat.blt q m.length then
          some ⟨[], .sl m.length 1, [.orows ti.elem te.elem 1 (some 0) (some q) (fun _ => n) [fun _ _ => 0]]⟩ else none
      | none => none
    | _, _ => none) else none
/-- A slice's first elements as an entry of their own (where this is asked for). -/
def subNew (T : Tab) (sl : List Slot) (m : List MBlk) (c : List (Nat × Bool)) (t : Nat) (x : Operand) (lo hi : Option Operand) : Option AR :=
  bif memN 1000001 T.sure then (match assoc T.types t, useOp T sl c x, lo, useOpt T sl c hi with
    | some ti, some (.sl r n), none, some (some (.i _ b)) => match assoc T.types ti.elem, nth m r with
      | some te, some (.arr n' cols) => bif Nat.beq ti.kind 3 && Nat.beq te.size cols.length then some ⟨[n = n', 0 ≤ b, b ≤ n], .sl m.length b.toNat, [.arr b.toNat cols]⟩ else none
      | _, _ => none
    | _, _, _, _ => none) else none
/-- An operation that changes no known memory. -/
def stepA (T : Tab) (sl : List Slot) (m : List MBlk) (c : List (Nat × Bool)) (oty : Nat) (op : Op) : Option AR :=
  match op with
  | .move x => optA (useOp T sl c x)
  | .assign x => match useOp T sl c x with
    | some .nilsl => match assoc T.types oty with
      | some ti => bif Nat.beq ti.kind 3 && Nat.ble 1 ti.len then some ⟨[], .sl m.length 0, [.oarr ti.elem 0 (copies ti.len .any)]⟩ else some ⟨[], .nilsl, []⟩
      | none => some ⟨[], .nilsl, []⟩
    | r => optA r
  | .pick (.tmp q) x y => match useOp T sl c (.tmp q) with
    | some .tt => optA (useOp T sl c x)
    | some .ff => optA (useOp T sl c y)
    | some (.b cb) => match useOp T sl ((q, true) :: c) x, useOp T sl ((q, false) :: c) y with
      | some vx, some vy => optA (merge cb vx vy)
      | _, _ => none
    | _ => none
  | .alloc t => match assoc T.types t with
    | some ti => match ti.zero with
      | [] => none
      | z => some ⟨[], .ptr m.length 0, [.cells z]⟩
    | none => none
  | .box _ x => match useOp T sl c x with
    | some v => match cellsOf v with
      | some cs => some ⟨[], .ptr m.length 0, [.cells cs]⟩
      | none => none
    | none => none
  | .build t ps => match assoc T.types t, useParts T sl c ps.toList with
    | some ti, some vs => bif Nat.beq ti.kind 1 && !ti.zero.isEmpty then optA ((fillParts (nth ti.offs) ti.zero vs).map .agg) else
        (bif Nat.beq ti.kind 2 && !ti.zero.isEmpty then (match assoc T.types ti.elem with
          | some te => optA ((fillParts (fun k => bif Nat.blt k ti.len then some (k * te.size, te.size) else none) ti.zero vs).map .agg)
          | none => none) else none)
    | _, _ => none
  | .buildSlice t len ps => match rowLit T sl m c t len ps with
   | some ar => some ar
   | none => match assoc T.types t, useParts T sl c ps.toList with
    | some ti, some vs => match assoc T.types ti.elem with
      | some te => bif Nat.beq ti.kind 3 && Nat.ble (len * te.size) 1000 && Nat.ble 1 te.size && Nat.beq te.zero.length te.size && !(Nat.beq te.kind 3 && Nat.ble 1 len) then
          (match fillParts (fun k => bif Nat.blt k len then some (k * te.size, te.size) else none) (repL te.zero len) vs with
          | some cs => some ⟨[], .sl m.length len, [.oarr ti.elem len (flatCols cs te.size len 0 te.size)]⟩
          | none => none) else none
      | none => none
    | _, _ => none
  | .load t x => match assoc T.types t, useOp T sl c x with
    | some ti, some (.ptr r off) => match nth m r with
      | some (.cells cs) => optA (loadAt ti cs off)
      | some (.old cs) => optA (loadAt ti cs off)
      | _ => none
    | some ti, some (.pix r sz ix off) => match nth m r with
      | some (.arr n cols) => loadPix ti n cols sz ix off m.length
      | some (.oarr _ n cols) => loadPix ti n cols sz ix off m.length
      | some (.orows _ e' n (some h) (some q) len _) => bif Nat.beq ti.kind 3 && Nat.beq sz 1 && Nat.beq off 0 && Nat.beq ti.elem e' then some ⟨[ix < n, ix = h], .sl q (len h), []⟩ else none
      | _ => none
    | _, _ => none
  | .slice t x lo hi none => match subNew T sl m c t x lo hi with
   | some ar => some ar
   | none => match assoc T.types t, useOp T sl c x, useOpt T sl c lo, useOpt T sl c hi with
    | some ti, some v, some lo, some hi => match assoc T.types ti.elem with
      | some te => bif Nat.beq ti.kind 3 then sliceOp m te v lo hi else none
      | none => none
    | _, _, _, _ => none
  | .makeMap t none => match mapKinds T t with
    | some (k, k') => some ⟨[], .mp m.length, [.mapi k k' (fun _ => none)]⟩
    | none => bif mapPair T t then some ⟨[], .mp m.length, [.mapp (fun _ _ => false)]⟩ else none
  | .lookup t x y ok => match useOp T sl c x, useOp T sl c y with
    | some (.mp r), some (.i q n) => match mapKinds T t, nth m r with
      | some (k, k'), some (.mapi k2 k2' f) => bif kEq k k2 && oEq k' k2' && kEq k q then some ⟨[], bif ok then .tup [svV k' (val0 (f n)), .b (isS (f n))] else svV k' (val0 (f n)), []⟩ else none
      | _, _ => none
    | some (.mp r), some v => match pairOf v, nth m r with
      | some (p, q), some k => match pairSet k with
        | some f => bif mapPair T t && !ok then some ⟨[], .b (f p q), []⟩ else none
        | none => none
      | _, _ => none
    | _, _ => none
  | .makeSlice t x y => match assoc T.types t, useOp T sl c x, useOp T sl c y with
    | some ti, some (.i _ l), some (.i _ d) => match assoc T.types ti.elem with
      | some te => bif Nat.beq ti.kind 3 && Nat.ble 1 te.size && Nat.beq te.zero.length te.size then
          (match x with
          | .const (.int _ (.ofNat 0)) => some ⟨[0 ≤ d, (te.bytes : Int) * d ≤ 281474976710656, d ≤ 9223372036854775807], .sl m.length 0, [.oarr ti.elem 0 (copies te.size .any)]⟩
          | _ => some ⟨[0 ≤ l, d = l, (te.bytes : Int) * l ≤ 281474976710656, l ≤ 9223372036854775807], .sl m.length l.toNat, [madeOf ti.elem te l.toNat]⟩) else none
      | none => none
    | _, _, _ => none
  | .binOp op t x y _ => match useOp T sl c x, useOp T sl c y with
    | some (.agg a), some (.agg b) => match assoc T.types t with
      | some ti => match ti.eqk with
        | some ks => match eqCells ks a b, op with
          | some z, .eql => some ⟨[], .b z, []⟩
          | some z, .neq => some ⟨[], .b (!z), []⟩
          | _, _ => none
        | none => none
      | none => none
    | some a, some b => match bin T t op a b with
      | some (p, v) => some ⟨p, v, []⟩
      | none => none
    | _, _ => none
  | .unOp op _ x => match op, useOp T sl c x with
    | .not, some v => optA (notB v)
    | .neg, some (.i k n) => some ⟨[], .i k (k.wrap (0 - n)), []⟩
    | _, _ => none
  | .fieldAddr t x k => match assoc T.types t with
    | some ti => bif Nat.beq ti.kind 1 then (match nth ti.offs k, useOp T sl c x with
      | some o, some (.ptr r off) => bif Nat.beq o.2 0 then none else some ⟨[], .ptr r (off + o.1), []⟩
      | some o, some (.pix r sz ix off) => bif Nat.beq o.2 0 then none else some ⟨[], .pix r sz ix (off + o.1), []⟩
      | _, _ => none) else none
    | none => none
  | .indexAddr t x y => match assoc T.types t, useOp T sl c x, useOp T sl c y with
    | some ti, some v, some (.i _ n) => match assoc T.types ti.elem with
      | some te => match v with
        | .ptr r off => match cellIx m r y with
          | some k => bif Nat.beq ti.kind 2 && Nat.blt k ti.len && Nat.beq te.size 1 then some ⟨[], .ptr r (off + k), []⟩ else none
          | none => bif Nat.beq ti.kind 2 && Nat.beq off 0 then some ⟨[0 ≤ n ∧ n < ti.len], .pix r te.size n.toNat 0, []⟩ else none
        | .sl r len => bif Nat.beq ti.kind 3 then some ⟨[0 ≤ n ∧ n < len], .pix r te.size n.toNat 0, []⟩ else none
        | .sub r sz lo len => bif Nat.beq ti.kind 3 && Nat.beq sz te.size then some ⟨[0 ≤ n ∧ n < len], .pix r sz (lo + n.toNat) 0, []⟩ else none
        | .pix r sz ix off => match y with
          | .const (.int _ (.ofNat k)) => bif Nat.beq ti.kind 2 && Nat.blt k ti.len && Nat.beq te.size 1 then some ⟨[], .pix r sz ix (off + k), []⟩ else none
          | _ => none
        | _ => none
      | none => none
    | _, _, _ => none
  | .convert s d x => match assoc T.types s, assoc T.types d, useOp T sl c x with
    | some _, some ti, some (.i _ n) => match ti.ik with
      | some k => bif Nat.beq ti.kind 0 then some ⟨[], .i k (k.wrap n), []⟩ else none
      | none => none
    | _, _, _ => none
  | .extract x k => match useOp T sl c x with
    | some (.tup xs) => optA (nth xs k)
    | _ => none
  | .makeFunc (.func f) fs xs => match fs.toList, useAll T sl c xs.toList with
    | [], some vs => some ⟨[], .fn f vs, []⟩
    | _, _ => none
  | .entry x => match useOp T sl c x with
    | some (.ptr r 0) => match nth m r with
      | some (.iterp _ (some (a, b))) => some ⟨[], .tup [.agg [.i .i64 a, .i .i64 b], .tt], []⟩
      | _ => none
    | _ => none
  | .field t x k => match assoc T.types t, useOp T sl c x with
    | some ti, some (.agg xs) => bif Nat.beq ti.kind 1 then optA (fieldOf ti xs k) else none
    | _, _ => none
  | .call cl => match cl.callee with
    | .builtin b => match useAll T sl c cl.args.toList with
      | some vs => stepBuiltin T b cl.argTypes.toList vs
      | none => none
    | _ => match calleeOf T sl c cl.callee, useAll T sl c cl.args.toList with
      | some (f, ys), some vs => match assoc T.calls f with
        | some F => F m (vs ++ ys)
        | none => none
      | _, _ => none
  | _ => none
mutual
def SV.refs : SV → List Nat → Bool
  | .ptr r _, l => memN r l
  | .pix r _ _ _, l => memN r l
  | .sl r _, l => memN r l
  | .sub r _ _ _, l => memN r l
  | .mp r, l => memN r l
  | .agg xs, l => refsL xs l
  | .tup xs, l => refsL xs l
  | .fn _ xs, l => refsL xs l
  | _, _ => false
def refsL : List SV → List Nat → Bool
  | [], _ => false
  | x :: r, l => SV.refs x l || refsL r l
end
def killSV (l : List Nat) (x : SV) : SV := bif x.refs l then .dead else x
def killSlots (l : List Nat) : List Slot → List Slot
  | [] => []
  | s :: r => ⟨s.ch, killSV l s.sv⟩ :: killSlots l r
def killCells (l : List Nat) : List SV → List SV
  | [] => []
  | x :: r => killSV l x :: killCells l r
def killO (l : List Nat) : Option Nat → Option Nat
  | none => none
  | some q => bif memN q l then none else some q
def killB (l : List Nat) : MBlk → MBlk
  | .cells cs => .cells (killCells l cs)
  | .old cs => .old (killCells l cs)
  | .orows e e' n h k len gs => .orows e e' n h (killO l k) len gs
  | k => k
def killMem (l : List Nat) : List MBlk → List MBlk
  | [] => []
  | k :: r => killB l k :: killMem l r
def updMem : List MBlk → List (Nat × MBlk) → List MBlk
  | m, [] => m
  | m, (r, k) :: u => updMem (setAt m r k) u
def colKnown : Col → Bool
  | .any => false
  | _ => true
def colsKnown : List Col → Bool
  | [] => true
  | c :: r => colKnown c && colsKnown r
/-- A column, another behind it from n on. -/
def catG (n : Nat) : List (Nat → Nat → Int) → List (Nat → Nat → Int) → List (Nat → Nat → Int)
  | g :: r, g' :: r' => (fun j => bif Nat.blt j n then g j else g' (j - n)) :: catG n r r'
  | _, _ => []
def catCol (n : Nat) : Col → Col → Col
  | .rows len gs, .rows len' gs' => bif Nat.beq gs.length gs'.length then .rows (fun j => bif Nat.blt j n then len j else len' (j - n)) (catG n gs gs') else .any
  | .any, .rows len' gs' => bif Nat.beq n 0 then .rows len' gs' else .any
  | .int k g, .int k' g' => bif kEq k k' then .int k (fun j => bif Nat.blt j n then g j else g' (j - n)) else .any
  | .bool g, .bool g' => .bool (fun j => bif Nat.blt j n then g j else g' (j - n))
  | .any, .int k g => bif Nat.beq n 0 then .int k g else .any
  | .any, .bool g => bif Nat.beq n 0 then .bool g else .any
  | _, _ => .any
def catCols (n : Nat) : List Col → List Col → List Col
  | c :: r, c' :: r' => catCol n c c' :: catCols n r r'
  | _, _ => []
/-- A column from element lo on. -/
def dropCol (lo : Nat) : Col → Col
  | .int k g => .int k (fun j => g (lo + j))
  | .bool g => .bool (fun j => g (lo + j))
  | .rows len gs => .rows (fun j => len (lo + j)) (dropG lo gs)
  | .any => .any
where dropG (lo : Nat) : List (Nat → Nat → Int) → List (Nat → Nat → Int)
  | [] => []
  | g :: r => (fun j => g (lo + j)) :: dropG lo r
def dropCols (lo : Nat) : List Col → List Col
  | [] => []
  | c :: r => dropCol lo c :: dropCols lo r
/-- The columns of a slice of numbers, as a row's. -/
def asRow : List Col → Option (List (Nat → Nat → Int))
  | [] => some []
  | .int .i64 g :: r => match asRow r with
    | some l => some ((fun _ => g) :: l)
    | none => none
  | _ => none
/-- A column, element ix turned. -/
def updCol (c : Col) (ix : Nat) (v : SV) : Option Col :=
  match c, v with
  | .int k g, .i k' a => bif kEq k k' then some (.int k (fun j => bif Nat.beq j ix then a else g j)) else none
  | .bool g, v => match bOf v with
    | some b => some (.bool (fun j => bif Nat.beq j ix then b else g j))
    | none => none
  | _, _ => none
def updCols : List Col → Nat → Nat → List SV → Option (List Col)
  | cs, 0, _, [] => some cs
  | c :: r, 0, ix, v :: vs => match updCol c ix v, updCols r 0 ix vs with
    | some c', some r' => some (c' :: r')
    | _, _ => none
  | c :: r, o + 1, ix, vs => match updCols r o ix vs with
    | some r' => some (c :: r')
    | none => none
  | [], 0, _, _ :: _ => none
  | [], _ + 1, _, _ => none
/-- A slice's columns, as rows' functions. -/
def asRow1 : List Col → Option (List (Nat → Int))
  | [] => some []
  | .int .i64 g :: r => match asRow1 r with
    | some l => some (g :: l)
    | none => none
  | _ => none
/-- The rows' functions, row ix turned. -/
def updG (ix : Nat) : List (Nat → Nat → Int) → List (Nat → Int) → List (Nat → Nat → Int)
  | g :: r, h :: s => (fun j => bif Nat.beq j ix then h else g j) :: updG ix r s
  | r, _ => r
/-- What is put into a map. -/
def mapUpd (T : Tab) (sl : List Slot) (m : List MBlk) (c : List (Nat × Bool)) (t : Nat) (x y z : Operand) : Option BRes :=
  match useOp T sl c x, useOp T sl c y, useOp T sl c z with
    | some (.mp r), some (.i q n), some z => match mapKinds T t, nth m r with
      | some (k, k'), some (.mapi k2 k2' f) => match valOf k' z with
        | some v => bif kEq k k2 && oEq k' k2' && kEq k q then some ⟨[], .v undef, [], [(r, .mapi k2 k2' (fun j => bif j == n then some v else f j))], []⟩ else none
        | none => none
      | _, _ => none
    | some (.mp r), some v, some .tt => match pairOf v, nth m r with
      | some (p, q), some (.mapp f) => bif mapPair T t then some ⟨[], .v undef, [], [(r, .mapp (fun a b => (a == p && b == q) || f a b))], []⟩ else none
      | _, _ => none
    | _, _, _ => none
/-- Three things by number. -/
def three {α : Type} (a b c : α) : Nat → α
  | 0 => a
  | 1 => b
  | _ => c
/-- An operation that changes known memory. kill: the entries whose address may turn; upd: what entries hold behind it. -/
def stepB (T : Tab) (sl : List Slot) (m : List MBlk) (c : List (Nat × Bool)) (op : Op) : Option BRes :=
  match op with
  | .store t x y => match assoc T.types t, useOp T sl c x, useOp T sl c y with
    | some ti, some (.ptr r off), some v => match nth m r, cellsOf v with
      | some (.cells cs), some vs => bif Nat.beq vs.length ti.size && allOne vs then (match writeAt cs off vs with
        | some cs' => some ⟨[], .v undef, [], [(r, .cells cs')], []⟩
        | none => none) else none
      | _, _ => none
    | some ti, some (.pix r sz ix 0), some (.sl q k) => match nth m r, nth m q with
      | some (.orows e e' n (some h) _ len gs), some (.oarr e2 n2 cols) => match asRow1 cols with
        | some g => bif Nat.beq ti.size 1 && Nat.beq sz 1 && Nat.beq e' e2 && Nat.beq gs.length cols.length && !(Nat.beq r q) then
            some ⟨[ix < n, ix = h, k = n2], .v undef, [], [(r, .orows e e' n none none (fun j => bif Nat.beq j ix then k else len j) (updG ix gs g)), (q, .gone)], []⟩ else none
        | none => none
      | _, _ => none
    | some ti, some (.pix r sz ix off), some v => match nth m r, cellsOf v with
      | some (.oarr e n cols), some vs => bif Nat.beq vs.length ti.size && allOne vs && Nat.beq sz cols.length && Nat.ble 1 vs.length then (match updCols cols off ix vs with
        | some cols' => some ⟨[ix < n], .v undef, [], [(r, .oarr e n cols')], []⟩
        | none => none) else none
      | _, _ => none
    | _, _, _ => none
  | .mapUpdate t x y z => mapUpd T sl m c t x y z
  | .insert t x y z => mapUpd T sl m c t x y z
  | .buildSlice t (.succ .zero) ps => match assoc T.types t, useParts T sl c ps.toList with
    | some ti, some [(0, .sl q n)] => match assoc T.types ti.elem, nth m q with
      | some te, some (.oarr _ n' cols) => match asRow cols with
        | some gs => bif Nat.beq ti.kind 3 && Nat.beq te.kind 3 && Nat.beq te.size 1 && Nat.beq te.zero.length 1 then some ⟨[n = n'], .sl m.length 1, [], [(q, .arr n' cols)], [.oarr ti.elem 1 [.rows (fun _ => n) gs]]⟩ else none
        | none => none
      | _, _ => none
    | _, _ => none
  | .slice t x none (some y) none => match assoc T.types t, useOp T sl c x, useOp T sl c y with
    | some ti, some (.sl r n), some (.i _ b) => match assoc T.types ti.elem, nth m r with
      | some te, some (.oarr e n' cols) => bif Nat.beq ti.kind 3 && Nat.beq te.size cols.length then
          some ⟨[n = n', 0 ≤ b, b ≤ n], .sl r b.toNat, [], [(r, .oarr e b.toNat cols)], []⟩ else none
      | _, _ => none
    | _, _, _ => none
  | .buildSlice t (.succ (.succ (.succ .zero))) ps => match assoc T.types t, useParts T sl c ps.toList with
    | some ti, some [(0, .sl q0 n0), (1, .sl q1 n1), (2, .sl q2 n2)] => match assoc T.types ti.elem, nth m q0, nth m q1, nth m q2 with
      | some te, some (.oarr _ k0 [.int .i64 g0]), some (.oarr _ k1 [.int .i64 g1]), some (.oarr _ k2 [.int .i64 g2]) =>
        bif Nat.beq ti.kind 3 && Nat.beq te.kind 3 && Nat.beq te.size 1 && Nat.beq te.zero.length 1 && !(Nat.beq q0 q1) && !(Nat.beq q0 q2) && !(Nat.beq q1 q2) then
          some ⟨[n0 = k0, n1 = k1, n2 = k2], .sl m.length 3, [], [(q0, .arr k0 [.int .i64 g0]), (q1, .arr k1 [.int .i64 g1]), (q2, .arr k2 [.int .i64 g2])], [.oarr ti.elem 3 [.rows (three n0 n1 n2) [three g0 g1 g2]]]⟩ else none
      | _, _, _, _ => none
    | _, _ => none
  | .range t x => match useOp T sl c x with
    | some (.mp r) => bif mapPair T t then match nth m r with
      | some (.mapp f) => some ⟨[], .ptr m.length 0, [], [(r, .fmapp f)], [.iterp f none]⟩
      | some (.fmapp f) => some ⟨[], .ptr m.length 0, [], [], [.iterp f none]⟩
      | _ => none
     else none
    | _ => none
  | .call cl => match calleeOf T sl c cl.callee with
   | some (f, ys) => match assoc T.callsB f, useAll T sl c cl.args.toList with
    | some F, some vs => F m (vs ++ ys)
    | _, _ => none
   | none => match cl.callee, cl.args.toList, cl.argTypes.toList with
    | .builtin .append, [x, y], [t, t'] => match assoc T.types t, useOp T sl c x, useOp T sl c y with
      | some ti, some (.sl r n), some (.sl q k) => match assoc T.types ti.elem, nth m r, nth m q with
        | some te, some (.oarr e n' cols), some kq => match srcOf kq with
          | some (k', cols') => bif Nat.beq t t' && Nat.beq ti.kind 3 && Nat.beq e ti.elem && Nat.beq cols.length te.size && Nat.beq cols'.length te.size && Nat.beq te.zero.length te.size && Nat.blt 0 te.size && colsKnown cols' then
              some ⟨[n = n', k = k', (n + k) * te.bytes ≤ 140737488355328, n + k ≤ 9223372036854775807], .sl r (n + k), [r], [(r, .oarr e (n + k) (catCols n cols cols'))], []⟩ else none
          | none => none
        | _, _, _ => none
      | some ti, some (.sl r n), some (.sub q sz lo k) => match assoc T.types ti.elem, nth m r, nth m q with
        | some te, some (.oarr e n' cols), some kq => match srcOf kq with
          | some (k', cols') => bif Nat.beq t t' && Nat.beq ti.kind 3 && Nat.beq e ti.elem && Nat.beq cols.length te.size && Nat.beq cols'.length te.size && Nat.beq te.zero.length te.size && Nat.blt 0 te.size && colsKnown cols' && Nat.beq sz te.size then
              some ⟨[n = n', lo + k ≤ k', (n + k) * te.bytes ≤ 140737488355328, n + k ≤ 9223372036854775807], .sl r (n + k), [r], [(r, .oarr e (n + k) (catCols n cols (dropCols lo cols')))], []⟩ else none
          | none => none
        | _, _, _ => none
      | _, _, _ => none
    | _, _, _ => none
  | _ => none
/-- What hangs on a guard: its slot, and what that slot hangs on. none: not known; some none: it is known not to be carried out. -/
def guardCh (sl : List Slot) (ops : List Oper) : Option (Nat × Bool) → Option (Option (List (Nat × Bool)))
  | none => some (some [])
  | some (j, w) => match nth ops j with
    | some o => match o.dst with
      | some d => match nth sl d with
        | some s => match s.sv, w with
          | .tt, true => some (some s.ch)
          | .ff, false => some (some s.ch)
          | .tt, false => some none
          | .ff, true => some none
          | .b _, _ => some (some ((d, w) :: s.ch))
          | _, _ => none
        | none => none
      | none => none
    | none => none
/-- p, under what the chain says. -/
def chImp (sl : List Slot) : List (Nat × Bool) → Prop → Prop
  | [], p => p
  | (q, w) :: r, p => match nth sl q with
    | some s => match s.sv with
      | .b x => x = w → chImp sl r p
      | _ => chImp sl r p
    | none => chImp sl r p
/-- Each slot of a chain hangs on nothing but the chain itself. -/
def chOk (sl : List Slot) (c : List (Nat × Bool)) : List (Nat × Bool) → Bool
  | [] => true
  | (q, _) :: r => (match nth sl q with | some s => subCh s.ch c | none => false) && chOk sl c r
def putS (sl : List Slot) (dst : Option Nat) (s : Slot) : Option (List Slot) :=
  match dst with
  | some d => match nth sl d with
    | some _ => some (setAt sl d s)
    | none => none
  | none => some sl
/-- No chain names the slot d. -/
def chFree (d : Nat) : List (Nat × Bool) → Bool
  | [] => true
  | (q, _) :: r => !(Nat.beq q d) && chFree d r
def chFreeO (dst : Option Nat) (c : List (Nat × Bool)) : Bool :=
  match dst with
  | some d => chFree d c
  | none => true
def dstFree (dst : Option Nat) : List Slot → Bool
  | [] => true
  | s :: r => (match dst with | some d => chFree d s.ch | none => true) && dstFree dst r
def cleanSlot (s : Slot) : Slot :=
  match s.ch with
  | [] => s
  | _ => ⟨[], .dead⟩
def clean : List Slot → List Slot
  | [] => []
  | s :: r => cleanSlot s :: clean r
def chImps (sl : List Slot) (c : List (Nat × Bool)) : List Prop → List Prop
  | [] => []
  | p :: r => chImp sl c p :: chImps sl c r
def app (m new : List MBlk) : List MBlk :=
  match new with
  | [] => m
  | _ => m ++ new
theorem app_eq (m new : List MBlk) : app m new = m ++ new := by
  unfold app
  split
  · simp
  · rfl
/-- What is known to be true there. -/
def sureV (T : Tab) (dst : Option Nat) (v : SV) : SV :=
  match dst with
  | some d => bif memN d T.sure then (match v with | .b _ => .tt | v => v) else v
  | none => v
def sureP (T : Tab) (dst : Option Nat) (v : SV) (ps : List Prop) : List Prop :=
  match dst with
  | some d => bif memN d T.sure then (match v with | .b x => (x = true) :: ps | _ => ps) else ps
  | none => ps
/-- One operation that changes no known memory, with its guard: the slots and the memory behind it. -/
def opA (T : Tab) (ops : List Oper) (sl : List Slot) (m : List MBlk) (o : Oper) : Option (List Prop × List Slot × List MBlk) :=
  match guardCh sl ops o.guard with
  | some (some c) => bif chOk sl c c && dstFree o.dst sl && chFreeO o.dst c then (match stepA T sl m c o.type o.op with
    | some a => match putS sl o.dst ⟨c, sureV T o.dst a.sv⟩ with
      | some sl' => some (chImps sl c (sureP T o.dst a.sv a.pre), sl', app m a.new)
      | none => none
    | none => none) else none
  | some none => bif dstFree o.dst sl then (match putS sl o.dst ⟨[], .dead⟩ with
    | some sl' => some ([], sl', m)
    | none => none) else none
  | none => none
/-- A row that was put into a literal and is frozen now. -/
def settle (T : Tab) (sl : List Slot) (m : List MBlk) (op : Op) : Option (List Prop × List (Nat × MBlk)) :=
  match op with
  | .call cl => match cl.callee, cl.args.toList with
    | .builtin .append, [_, y] => match useOp T sl [] y with
      | some (.sl q _) => match nth m q with
        | some (.orows e2 _ n (some 0) (some p) len _) => match nth m p with
          | some (.oarr _ j cols) => match asRow cols with
            | some gs => bif Nat.beq n 1 then some ([len 0 = j], [(p, .arr j cols), (q, .oarr e2 1 [.rows (fun _ => j) gs])]) else none
            | none => none
          | _ => none
        | _ => none
      | _ => none
    | _, _ => none
  | _ => none
def stepC (T : Tab) (sl : List Slot) (m : List MBlk) (op : Op) : Option BRes :=
  match settle T sl m op with
  | some (ps, us) => match stepB T sl (updMem m us) [] op with
    | some b => some ⟨ps ++ b.pre, b.sv, b.kill, us ++ b.upd, b.new⟩
    | none => none
  | none => stepB T sl m [] op
/-- No package-level variable's entry is among these. -/
def globFree (l : List Nat) : List Nat → Bool
  | [] => true
  | r :: g => !(memN r l) && globFree l g
/-- One operation that changes known memory (no guard). -/
def opB (T : Tab) (ops : List Oper) (sl : List Slot) (m : List MBlk) (o : Oper) : Option (List Prop × List Slot × List MBlk × List Nat) :=
  match guardCh sl ops o.guard with
  | some (some []) => bif dstFree o.dst sl then (match stepC T sl m o.op with
    | some b => bif globFree b.kill (prot T) then (match putS (killSlots b.kill sl) o.dst ⟨[], b.sv⟩ with
      | some sl' => some (b.pre, sl', app (updMem (killMem b.kill m) b.upd) b.new, b.upd.map (·.1))
      | none => none) else none
    | none => none) else none
  | _ => none
/-- A region in the order of its text. -/
def seqGo (T : Tab) (ops : List Oper) : List Oper → St → Option (List Prop × St)
  | [], s => some ([], ⟨clean s.slots, s.mem, s.dirty⟩)
  | o :: rest, s => match opA T ops s.slots s.mem o with
    | some (ps, sl, m) => match seqGo T ops rest ⟨sl, m, s.dirty⟩ with
      | some (qs, s') => some (ps ++ qs, s')
      | none => none
    | none => match opB T ops s.slots s.mem o with
      | some (ps, sl, m, d) => match seqGo T ops rest ⟨sl, m, d ++ s.dirty⟩ with
        | some (qs, s') => some (ps ++ qs, s')
        | none => none
      | none => none
/-- What an operation looks at: its operands, its guard, and what that hangs on. -/
def looksOf (sl : List Slot) (ops : List Oper) (o : Oper) : List Nat :=
  o.op.operands.toList.filterMap (fun | .tmp t => some t | _ => none) ++
  (match o.guard with
   | some (g, _) => match nth ops g with
     | some og => og.dst.toList
     | none => []
   | none => []) ++
  (match guardCh sl ops o.guard with
   | some (some c) => c.map (·.1)
   | _ => [])
/-- The operations that change no known memory, as far as they go: what is asked, the slots, the memory, what each looks at, what is left. -/
def seqA (T : Tab) (ops : List Oper) : List Oper → List Slot → List MBlk → List Prop × List Slot × List MBlk × List (List Nat) × List Oper
  | [], sl, m => ([], sl, m, [], [])
  | o :: rest, sl, m => match opA T ops sl m o with
    | some (ps, sl', m') => match seqA T ops rest sl' m' with
      | (qs, sl2, m2, ls, r) => (ps ++ qs, sl2, m2, looksOf sl ops o :: ls, r)
    | none => ([], sl, m, [], o :: rest)
/-- The operations that change known memory, in their order. -/
def seqB (T : Tab) (ops : List Oper) : List Oper → St → Option (List Prop × St)
  | [], s => some ([], s)
  | o :: rest, s => match opA T ops s.slots s.mem o with
    | some (ps, sl, m) => match seqB T ops rest ⟨sl, m, s.dirty⟩ with
      | some (qs, s') => some (ps ++ qs, s')
      | none => none
    | none => match opB T ops s.slots s.mem o with
      | some (ps, sl, m, d) => match seqB T ops rest ⟨sl, m, d ++ s.dirty⟩ with
        | some (qs, s') => some (ps ++ qs, s')
        | none => none
      | none => none
/-- All that an operation waits for, as bits. acc: the same of the operations before it. -/
def ancOf (acc : List Nat) : List Edge → Nat
  | [] => 0
  | e :: r => bif Region.binds .any e then (1 <<< e.on) ||| (match nth acc e.on with | some x => x | none => 0) ||| ancOf acc r else ancOf acc r
def ancsGo : List Oper → List Nat → List Nat
  | [], acc => acc
  | o :: r, acc => ancsGo r (acc ++ [ancOf acc o.after.toList])
def edgesLt (i : Nat) : List Edge → Bool
  | [] => true
  | e :: r => (!(Region.binds .any e) || Nat.blt e.on i) && edgesLt i r
def edgesOk : Nat → List Oper → Bool
  | _, [] => true
  | i, o :: r => edgesLt i o.after.toList && edgesOk (i + 1) r
/-- Operation i looks at slot t: whoever else writes t comes surely before it or surely behind it. -/
def lookOk (i ai t : Nat) : Nat → List Oper → List Nat → Bool
  | j, o :: r, aj :: ar => (bif Nat.beq j i then true else match o.dst with
      | some d => bif Nat.beq d t then (bif Nat.blt j i then Nat.testBit ai j else Nat.testBit aj i) else true
      | none => true) && lookOk i ai t (j + 1) r ar
  | _, _, _ => true
def looksOk (i ai : Nat) (ops : List Oper) (an : List Nat) : List Nat → Bool
  | [] => true
  | t :: r => lookOk i ai t 0 ops an && looksOk i ai ops an r
def allLooks (ops : List Oper) (an : List Nat) : Nat → List (List Nat) → List Nat → Bool
  | i, l :: ls, ai :: ar => looksOk i ai ops an l && allLooks ops an (i + 1) ls ar
  | _, [], _ => true
  | _, _, [] => false
def dstIn (d : Nat) : List Oper → Bool
  | [] => false
  | o :: r => (match o.dst with | some e => Nat.beq e d | none => false) || dstIn d r
def dstsOk : List Oper → Bool
  | [] => true
  | o :: r => (match o.dst with | some d => !(dstIn d r) | none => true) && dstsOk r
/-- The operations from number b on wait for all that is before them. -/
def tailOk : Nat → List Nat → Bool
  | _, [] => true
  | b, a :: r => Nat.beq (a &&& (1 <<< b - 1)) (1 <<< b - 1) && tailOk (b + 1) r
def allClean : List Slot → Bool
  | [] => true
  | s :: r => s.ch.isEmpty && allClean r
def drawGo (T : Tab) (ops : List Oper) (s : St) : Option (List Prop × St) :=
  match seqA T ops ops s.slots s.mem with
  | (ps, sl, m, ls, r) =>
    let an := ancsGo ops []
    bif allClean s.slots && edgesOk 0 ops && dstsOk ops && allLooks ops an 0 ls an && tailOk ls.length (dropN ls.length an) then (match seqB T ops r ⟨sl, m, s.dirty⟩ with
      | some (qs, s') => some (ps ++ qs, ⟨clean s'.slots, s'.mem, s'.dirty⟩)
      | none => none) else none
/-- An operation that may be taken first: it looks at no memory (none), or at a variable's cells that hold numbers (which). -/
def tkOp (T : Tab) (sl : List Slot) (m : List MBlk) (o : Oper) : Option (List (Nat × Nat × IntKind × Int)) :=
  match o.guard with
  | some _ => none
  | none => match o.op with
    | .move _ => some []
    | .indexAddr _ _ _ => some []
    | .fieldAddr _ _ _ => some []
    | .load t x => match assoc T.types t, useOp T sl [] x with
      | some ti, some (.ptr r off) => match nth m r with
        | some (.cells cs) => match nth cs off with
          | some (.i k n) => bif Nat.beq ti.kind 1 || Nat.beq ti.kind 2 then none else some [(r, off, k, n)]
          | _ => none
        | _ => none
      | _, _ => none
    | _ => none
def tkGo (T : Tab) (ops : List Oper) : List Oper → List Slot → List MBlk → List (List (Nat × Nat × IntKind × Int))
  | [], _, _ => []
  | o :: rest, sl, m => match tkOp T sl m o, opA T ops sl m o with
    | some h, some (_, sl', m') => h :: tkGo T ops rest sl' m'
    | _, _ => []
def flatH : List (List (Nat × Nat × IntKind × Int)) → List (Nat × Nat × IntKind × Int)
  | [] => []
  | h :: r => h ++ flatH r
def firstL (n : Nat) : Nat → Array Bool
  | 0 => Array.replicate n false
  | i + 1 => (firstL n i).setIfInBounds i true
def tkFree (ops : Array Oper) : Nat → Bool
  | 0 => true
  | i + 1 => Region.free .any ops (firstL ops.size i) i && (Region.ready .any ops (firstL ops.size i)).contains i && tkFree ops i
/-- The operations from number b on wait for all that is before them, but for the first k and those of L. -/
def tailMask (k L : Nat) : Nat → List Nat → Bool
  | _, [] => true
  | b, a :: r => Nat.beq ((a ||| (1 <<< k - 1) ||| L) &&& (1 <<< b - 1)) (1 <<< b - 1) && tailMask k L (b + 1) r
/-- An operation that looks at no memory: it may come up late. -/
def lateOp (o : Oper) : Bool := match o.guard with
  | some _ => false
  | none => match o.op with
    | .move _ => true
    | .extract _ _ => true
    | _ => false
/-- Those below n, as bits. -/
def lateGo (n : Nat) : Nat → List Oper → Nat
  | _, [] => 0
  | i, o :: r => (bif lateOp o && Nat.blt i n then 1 <<< i else 0) ||| lateGo n (i + 1) r
/-- All below n have come up but for those of L. -/
def allBut (size L : Nat) : Nat → Array Bool
  | 0 => Array.replicate size false
  | i + 1 => bif Nat.testBit L i then allBut size L i else (allBut size L i).setIfInBounds i true
def lateFree (ops : Array Oper) (L0 : Nat) (lst : Array Bool) : Nat → Nat
  | 0 => 0
  | j + 1 => (bif Nat.testBit L0 j && Region.free .any ops lst j then 1 <<< j else 0) ||| lateFree ops L0 lst j
/-- Those that all wait for. -/
def waited : Nat → List Nat → Nat
  | m, [] => m
  | m, a :: r => waited (m &&& a) r
def lateOf (ops : Array Oper) (n : Nat) : Nat :=
  let L0 := lateGo n 0 ops.toList &&& ((1 <<< n - 1) ^^^ waited (1 <<< n - 1) (dropN n (ancsGo ops.toList [])))
  lateFree ops L0 (allBut ops.size L0 n) n
def notIn (rs : List (Nat × Nat × IntKind × Int)) (d : List Nat) : Bool :=
  match rs with
  | [] => true
  | h :: r => !(memN h.1 d) && notIn r d
/-- The operations that change known memory, in their order; what is held stays. -/
def seqH (T : Tab) (ops : List Oper) (rs : List (Nat × Nat × IntKind × Int)) : List Oper → St → Option (List Prop × St)
  | [], s => some ([], s)
  | o :: rest, s => match opA T ops s.slots s.mem o with
    | some (ps, sl, m) => match seqH T ops rs rest ⟨sl, m, s.dirty⟩ with
      | some (qs, s') => some (ps ++ qs, s')
      | none => none
    | none => match opB T ops s.slots s.mem o with
      | some (ps, sl, m, d) => bif notIn rs d then (match seqH T ops rs rest ⟨sl, m, d ++ s.dirty⟩ with
        | some (qs, s') => some (ps ++ qs, s')
        | none => none) else none
      | none => none
def Tab.pinned (T : Tab) (f : Nat → Option Addr × Nat) (rs : List (Nat × Nat × IntKind × Int)) : Tab := ⟨T.types, T.globals, T.calls, T.loops, T.callsB, rs.map (fun h => (h.1, f h.1)) ++ T.pins, T.takes, T.sure⟩
/-- A region that draws its order, where some operations are taken first. -/
def drawHeld (T : Tab) (ops : Array Oper) (s : St) : Option (List Prop × St) :=
  match seqA T ops.toList ops.toList s.slots s.mem with
  | (ps, sl, m, ls, r) =>
    let an := ancsGo ops.toList []
    let tk := tkGo T ops.toList ops.toList s.slots s.mem
    let rs := flatH tk
    bif allClean s.slots && edgesOk 0 ops.toList && dstsOk ops.toList && allLooks ops.toList an 0 ls an && tailMask tk.length (lateOf ops ls.length) ls.length (dropN ls.length an) && Nat.ble tk.length ls.length && Region.noSelect ops && tkFree ops tk.length then
      (match seqH (T.pinned (fun _ => (none, 0)) rs) ops.toList rs r ⟨sl, m, s.dirty⟩ with
      | some (qs, s') => some (ps ++ qs, ⟨clean s'.slots, s'.mem, s'.dirty⟩)
      | none => none) else none
def drawAny (T : Tab) (ops : Array Oper) (s : St) : Option (List Prop × St) :=
  match drawGo T ops.toList s with
  | some x => some x
  | none => drawHeld T ops s
def pNth (l : List Nat) (i : Nat) : Nat := match nth l i with
  | some x => x
  | none => i
def mvOp (pi : List Nat) (ex : List (Nat × Nat)) (i : Nat) (o : Oper) : Oper := { o with after := ((o.after.toList.map (fun e : Edge => ({ on := pNth pi e.on, ground := e.ground } : Edge))) ++ ((ex.filter (fun p : Nat × Nat => Nat.beq p.2 i)).map (fun p : Nat × Nat => ({ on := pNth pi p.1, ground := .data } : Edge)))).toArray }
def mvOps (ops : List Oper) (inv pi : List Nat) (ex : List (Nat × Nat)) : List Oper := inv.map (fun i => match nth ops i with
  | some o => mvOp pi ex i o
  | none => default)
def mvChk (n : Nat) (inv pi : List Nat) : Nat → Bool
  | 0 => true
  | i + 1 => Nat.blt (pNth pi i) n && Nat.beq (pNth inv (pNth pi i)) i && Nat.blt (pNth inv i) n && Nat.beq (pNth pi (pNth inv i)) i && mvChk n inv pi i
def noGuard : List Oper → Bool
  | [] => true
  | o :: r => (match o.guard with | none => true | some _ => false) && noGuard r
def exOk (n : Nat) : List (Nat × Nat) → Bool
  | [] => true
  | p :: r => Nat.blt p.1 n && Nat.blt p.2 n && exOk n r
def mvOk (ops : List Oper) (inv pi : List Nat) (ex : List (Nat × Nat)) : Bool := Nat.beq inv.length ops.length && Nat.beq pi.length ops.length && mvChk ops.length inv pi ops.length && noGuard ops && exOk ops.length ex
/-- Number q is moved to place t. -/
def mvInv (q t n : Nat) : List Nat := (List.range n).map (fun j => bif Nat.blt j t then j else bif Nat.beq j t then q else bif Nat.ble j q then j - 1 else j)
def mvPi (q t n : Nat) : List Nat := (List.range n).map (fun i => bif Nat.blt i t then i else bif Nat.blt i q then i + 1 else bif Nat.beq i q then t else i)
/-- Three ways: number b + 2 ahead of number b, between it and the next, behind both. -/
def drawSplit (T : Tab) (ops : Array Oper) (s : St) : Option ((List Prop × St) × (List Prop × St) × (List Prop × St)) :=
  match seqA T ops.toList ops.toList s.slots s.mem with
  | (_, _, _, ls, _) => splitAt3 T ops s ls.length (ls.length + 2) ops.toList.length
where splitAt3 (T : Tab) (ops : Array Oper) (s : St) (b q n : Nat) : Option ((List Prop × St) × (List Prop × St) × (List Prop × St)) :=
  bif mvOk ops.toList (mvInv q b n) (mvPi q b n) [(q, b)] && mvOk ops.toList (mvInv q (b + 1) n) (mvPi q (b + 1) n) [(b, q), (q, b + 1)] && mvOk ops.toList (mvInv q q n) (mvPi q q n) [(b, q), (b + 1, q)] && !(Nat.beq q b) && !(Nat.beq q (b + 1)) then
    match drawAny T (mvOps ops.toList (mvInv q b n) (mvPi q b n) [(q, b)]).toArray s, drawAny T (mvOps ops.toList (mvInv q (b + 1) n) (mvPi q (b + 1) n) [(b, q), (q, b + 1)]).toArray s, drawAny T (mvOps ops.toList (mvInv q q n) (mvPi q q n) [(b, q), (b + 1, q)]).toArray s with
    | some x, some y, some z => some (x, y, z)
    | _, _, _ => none
  else none
def conj : List Prop → Prop → Prop
  | [], p => p
  | q :: r, p => q ∧ conj r p
/-- The slots that a piece of code writes. -/
def writes : Code → List Nat
  | .region _ ops _ => ops.toList.filterMap (·.dst)
  | .seq a b => writes a ++ writes b
  | .cond _ a b => writes a ++ writes b
  | .block _ c => writes c
  | .loop c => writes c
  | .scope c => writes c
  | _ => []
/-- A slot's value refined by the way that was taken. -/
def refine (sl : List Slot) (x : Operand) (v : SV) : List Slot :=
  match x with
  | .tmp t => setAt sl t ⟨[], v⟩
  | _ => sl
mutual
def veq : SV → SV → Prop
  | .dead, _ => True
  | .tt, y => match bOf y with | some b => b = true | none => False
  | .ff, y => match bOf y with | some b => b = false | none => False
  | .b x, y => match bOf y with | some b => b = x | none => False
  | .i k n, .i k' n' => bif kEq k k' then n' = n else False
  | .nilsl, .nilsl => True
  | .nilptr, .nilptr => True
  | .nilmap, .nilmap => True
  | .ptr r o, .ptr r' o' => bif Nat.beq r r' && Nat.beq o o' then True else False
  | .pix r sz ix o, .pix r' sz' ix' o' => bif Nat.beq r r' && Nat.beq sz sz' && Nat.beq o o' then ix' = ix else False
  | .sl r n, .sl r' n' => bif Nat.beq r r' then n' = n else False
  | .sub r sz lo n, .sub r' sz' lo' n' => bif Nat.beq r r' && Nat.beq sz sz' then lo' = lo ∧ n' = n else False
  | .mp r, .mp r' => bif Nat.beq r r' then True else False
  | .agg xs, .agg ys => veqL xs ys
  | .tup xs, .tup ys => veqL xs ys
  | .fn f xs, .fn g ys => bif Nat.beq f g then veqL xs ys else False
  | .v x, .v y => y = x
  | _, _ => False
def veqL : List SV → List SV → Prop
  | [], [] => True
  | [x], [y] => veq x y
  | x :: xs, y :: ys => veq x y ∧ veqL xs ys
  | _, _ => False
end
/-- The rows' numbers are the same. -/
def rowsEq (n : Nat) (len : Nat → Nat) : List (Nat → Nat → Int) → List (Nat → Nat → Int) → Prop
  | [], [] => True
  | g :: r, g' :: r' => (∀ j, j < n → ∀ i, i < len j → g' j i = g j i) ∧ rowsEq n len r r'
  | _, _ => False
def colEq (n : Nat) : Col → Col → Prop
  | .any, _ => True
  | .int _ _, .any => n = 0
  | .bool _, .any => n = 0
  | .rows _ _, .any => n = 0
  | .rows len gs, .rows len' gs' => (∀ j, j < n → len' j = len j) ∧ rowsEq n len gs gs'
  | .int k g, .int k' g' => bif kEq k k' then (∀ j, j < n → g' j = g j) else False
  | .bool g, .bool g' => ∀ j, j < n → g' j = g j
  | _, _ => False
def colsEq (n : Nat) : List Col → List Col → Prop
  | [], [] => True
  | x :: xs, y :: ys => colEq n x y ∧ colsEq n xs ys
  | _, _ => False
def hEq : Option Nat → Option Nat → Bool
  | none, none => true
  | some a, some b => Nat.beq a b
  | _, _ => false
def lkEq : Option Nat → Option Nat → Bool
  | none, _ => true
  | some a, some b => Nat.beq a b
  | _, _ => false
def meq : MBlk → MBlk → Prop
  | .gone, _ => True
  | .cells xs, .cells ys => veqL xs ys
  | .old xs, .old ys => veqL xs ys
  | .arr n c, .arr n' c' => n' = n ∧ colsEq n c c'
  | .oarr e n c, .oarr e' n' c' => bif Nat.beq e e' then n' = n ∧ colsEq n c c' else False
  | .mapi k k' f, .mapi q q' f' => bif kEq k q && oEq k' q' then ∀ x, f' x = f x else False
  | .mapp f, .mapp f' => ∀ x y, f' x y = f x y
  | .fmapp f, .fmapp f' => ∀ x y, f' x y = f x y
  | .iterp f c, .iterp f' c' => (∀ x y, f' x y = f x y) ∧ (match c with | none => True | some p => c' = some p)
  | .orows e q n h k len gs, .orows e' q' n' h' k' len' gs' => bif Nat.beq e e' && Nat.beq q q' && hEq h h' && lkEq k k' then n' = n ∧ (∀ j, j < n → len' j = len j) ∧ rowsEq n len gs gs' else False
  | _, _ => False
/-- The patched slots and entries against what is there. -/
def slotsEq (sl : List Slot) : List (Nat × SV) → Prop
  | [] => True
  | (d, x) :: r => (match nth sl d with | some s => (match s.ch with | [] => veq x s.sv | _ => (match x with | .dead => True | _ => False)) | none => False) ∧ slotsEq sl r
def memEq (m : List MBlk) : List (Nat × MBlk) → Prop
  | [] => True
  | (d, x) :: r => (match nth m d with | some k => meq x k | none => False) ∧ memEq m r
/-- The head's slots: the patched ones; what the body writes, or what leads to a struck entry, is not known; the rest as it was. -/
def headSlots (ps : List (Nat × SV)) (ws kill : List Nat) : Nat → List Slot → List Slot
  | _, [] => []
  | d, s :: r => (match assoc ps d with
    | some v => ⟨[], v⟩
    | none => bif memN d ws then ⟨[], .dead⟩ else (match s.ch with
      | [] => ⟨[], killSV kill s.sv⟩
      | _ => ⟨[], .dead⟩)) :: headSlots ps ws kill (d + 1) r
def headMem (ps : List (Nat × MBlk)) (kill : List Nat) : Nat → List MBlk → List MBlk
  | _, [] => []
  | d, k :: r => (match assoc ps d with
    | some v => v
    | none => killB kill k) :: headMem ps kill (d + 1) r
def head (L : LAnn) (ws : List Nat) (s : St) (x : L.X) : St :=
  ⟨headSlots (L.slots x) ws L.kill 0 s.slots, headMem (L.mem x) L.kill 0 s.mem, []⟩
/-- What a slice's entry is to who only reads it. -/
def readArr : Option MBlk → Option MBlk
  | some (.arr n c) => some (.arr n c)
  | some (.oarr _ 0 c) => some (.arr 0 c)
  | _ => none
/-- Entry e is bound anew to the slice in cell off of variable r. -/
def renCell (gs : List Nat) (e r off : Nat) (s : St) : St := match nth s.mem r with
  | some (.cells cs) => match nth cs off with
    | some (.sl q n) => match readArr (nth s.mem q) with
      | some k => bif Nat.blt e s.mem.length && gs.all (fun g => !Nat.beq g e) && !(Nat.beq e r) then ⟨headSlots [] [] [e] 0 s.slots, headMem [(e, k), (r, .cells (setAt (killCells [e] cs) off (.sl e n)))] [e] 0 s.mem, s.dirty⟩ else s
      | none => s
    | _ => s
  | _ => s
/-- Entry e takes over the slice of the run's own in cell off of variable r. -/
def renMove (gs : List Nat) (e r off : Nat) (s : St) : St := match nth s.mem r with
  | some (.cells cs) => match nth cs off with
    | some (.sl q n) => match nth s.mem q with
      | some (.oarr e0 n0 c0) => bif Nat.blt e s.mem.length && gs.all (fun g => !Nat.beq g e) && !(Nat.beq e r) && !(Nat.beq q e) then ⟨headSlots [] [] [e, q] 0 s.slots, headMem [(e, .oarr e0 n0 c0), (r, .cells (setAt (killCells [e, q] cs) off (.sl e n))), (q, .gone)] [e, q] 0 s.mem, s.dirty⟩ else s
      | _ => s
    | _ => s
  | _ => s
/-- Entry e takes over the slice of the run's own in slot d. -/
def renSlot (gs : List Nat) (e d : Nat) (s : St) : St := match nth s.slots d with
  | some ⟨[], .sl q n⟩ => match nth s.mem q with
    | some (.oarr e0 n0 c0) => bif Nat.blt e s.mem.length && gs.all (fun g => !Nat.beq g e) && !(Nat.beq q e) then ⟨headSlots [(d, .sl e n)] [] [e, q] 0 s.slots, headMem [(e, .oarr e0 n0 c0), (q, .gone)] [e, q] 0 s.mem, s.dirty⟩ else s
    | _ => s
  | _ => s
/-- Entry p.1 is bound anew to the slice in slot p.2 (or, from a million on, in a variable's cell; from two million on it takes that slice over). -/
def renOne (gs : List Nat) (p : Nat × Nat) (s : St) : St := bif Nat.ble 3000000 p.2 then renSlot gs p.1 (p.2 - 3000000) s else bif Nat.ble 2000000 p.2 then renMove gs p.1 ((p.2 - 2000000) / 100) ((p.2 - 2000000) % 100) s else bif Nat.ble 1000000 p.2 then renCell gs p.1 ((p.2 - 1000000) / 100) ((p.2 - 1000000) % 100) s else match nth s.slots p.2 with
  | some ⟨[], .sl r n⟩ => match readArr (nth s.mem r) with
    | some k => bif Nat.blt p.1 s.mem.length && gs.all (fun g => !Nat.beq g p.1) then ⟨headSlots [(p.2, .sl p.1 n)] [] [p.1] 0 s.slots, headMem [(p.1, k)] [p.1] 0 s.mem, s.dirty⟩ else s
    | none => s
  | _ => s
def renAll (gs : List Nat) : List (Nat × Nat) → St → St
  | [], s => s
  | p :: r, s => renAll gs r (renOne gs p s)
/-- The head's slots against what is there behind the body. -/
def slotsAll : List Slot → List Slot → Prop
  | [], [] => True
  | [], _ :: _ => False
  | h :: hs, s :: ss => (match h.sv with
    | .dead => slotsAll hs ss
    | x => (match s.ch with
      | [] => veq x s.sv ∧ slotsAll hs ss
      | _ => False))
  | _ :: _, [] => False
def memAll : List MBlk → List MBlk → Prop
  | [], _ => True
  | h :: hs, s :: ss => (match h with
    | .gone => memAll hs ss
    | x => meq x s ∧ memAll hs ss)
  | _ :: _, [] => False
mutual
def SV.ltB : SV → Nat → Bool
  | .ptr r _, n => Nat.blt r n
  | .pix r _ _ _, n => Nat.blt r n
  | .sl r _, n => Nat.blt r n
  | .sub r _ _ _, n => Nat.blt r n
  | .mp r, n => Nat.blt r n
  | .agg xs, n => ltL xs n
  | .tup xs, n => ltL xs n
  | .fn _ xs, n => ltL xs n
  | _, _ => true
def ltL : List SV → Nat → Bool
  | [], _ => true
  | x :: r, n => SV.ltB x n && ltL r n
end
def slotsLt (n : Nat) : List Slot → Bool
  | [] => true
  | s :: r => s.sv.ltB n && slotsLt n r
def memLt (n : Nat) : List MBlk → Bool
  | [] => true
  | .cells cs :: r => ltL cs n && memLt n r
  | .old cs :: r => ltL cs n && memLt n r
  | .orows _ _ _ _ (some q) _ _ :: r => Nat.blt q n && memLt n r
  | _ :: r => memLt n r
def headOk (h : St) : Bool := slotsLt h.mem.length h.slots && memLt h.mem.length h.mem
/-- A region that begins with a step of a map's loop: what is still to come, the slot, the iterator, the other operations. -/
def nextOf (T : Tab) (s : St) : List Oper → Option ((Int → Int → Bool) × Nat × Nat × List Oper)
  | o :: rest => match o.op, o.guard, o.dst with
    | .next x false, none, some d => match useOp T s.slots [] x with
      | some (.ptr r 0) => match nth s.mem r, nth s.slots d with
        | some (.iterp left _), some _ => bif dstFree (some d) s.slots then some (left, d, r, rest) else none
        | _, _ => none
      | _ => none
    | _, _, _ => none
  | [] => none
/-- The rest of a region, and what is wanted behind it. -/
def regionK (T : Tab) (ops rest : List Oper) (s : St) (K : Ex → St → Prop) : Prop :=
  match seqGo T ops rest s with
  | some (ps, s') => conj ps (K .normal s')
  | none => False
def ghOne (m : List MBlk) : Gh → Option (List Prop × List MBlk)
  | .take r ix => match nth m r with
    | some (.orows e e' n none _ len gs) => some ([ix < n], setAt m r (.orows e e' n (some ix) (some m.length) len gs) ++ [.oarr e' (len ix) (rowCols gs ix)])
    | _ => none
  | .fresh r off e w => match nth m r with
    | some (.cells cs) => match nth cs off with
      | some .nilsl => bif Nat.blt 0 w then some ([], setAt m r (.cells (setAt cs off (.sl m.length 0))) ++ [.oarr e 0 (copies w .any)]) else none
      | _ => none
    | _ => none
  | .freeze r => match nth m r with
    | some (.oarr _ n cols) => some ([], setAt m r (.arr n cols))
    | _ => none
  | .cols r cs => match nth m r with
    | some (.oarr e n cols) => bif Nat.beq cs.length cols.length then some ([n = 0], setAt m r (.oarr e 0 cs)) else none
    | _ => none
def ghAll : List Gh → List MBlk → Option (List Prop × List MBlk)
  | [], m => some ([], m)
  | g :: r, m => match ghOne m g with
    | some (ps, m') => match ghAll r m' with
      | some (qs, m2) => some (ps ++ qs, m2)
      | none => none
    | none => none
/-- Memory said anew, ahead of a region: what is asked, the new state. -/
def takeRow (T : Tab) (id : Nat) (s : St) : Option (List Prop × St) :=
  match assoc T.takes id with
  | none => some ([], s)
  | some f => match ghAll (f s.slots s.mem) s.mem with
    | some (ps, m) => some (ps, ⟨s.slots, m, s.dirty⟩)
    | none => none
/-- The condition that a piece of code owes: T, fuel, the enclosing block, the code, the state, what is wanted behind it. -/
def vc (T : Tab) : Nat → Nat → Code → St → (Ex → St → Prop) → Prop
  | 0, _, _, _, _ => False
  | n + 1, bid, c, s, K => match c with
    | .skip => K .normal s
    | .label _ => K .normal s
    | .ret => K .ret s
    | .exit id => K (.exit id) s
    | .region id ops draw => match takeRow T id s with
      | some (tps, s) => conj tps (match nextOf T s ops.toList with
        | some (left, d, r, rest) => bif draw then False else
            ((∀ a b, left a b = false) → regionK T ops.toList rest ⟨setAt s.slots d ⟨[], .tup [.ff]⟩, s.mem, s.dirty⟩ K) ∧
            (∀ a b, left a b = true → regionK T ops.toList rest ⟨setAt s.slots d ⟨[], .tup [.tt, .agg [.i .i64 a, .i .i64 b], .tt]⟩, setAt s.mem r (.iterp (fun x y => left x y && !(x == a && y == b)) (some (a, b))), s.dirty⟩ K)
        | none => match (bif draw then drawAny T ops s else seqGo T ops.toList ops.toList s) with
          | some (ps, s') => conj ps (K .normal s')
          | none => bif draw then (match drawSplit T ops s with
            | some (x, y, z) => conj x.1 (K .normal x.2) ∧ conj y.1 (K .normal y.2) ∧ conj z.1 (K .normal z.2)
            | none => False) else False)
      | none => False
    | .seq a b => vc T n bid a s (fun e s' => match e with
      | .normal => vc T n bid b s' K
      | e => K e s')
    | .cond x a b => match useOp T s.slots [] x with
      | some .tt => vc T n bid a s K
      | some .ff => vc T n bid b s K
      | some (.b t) => (t = true → vc T n bid a ⟨refine s.slots x .tt, s.mem, s.dirty⟩ K) ∧ (t = false → vc T n bid b ⟨refine s.slots x .ff, s.mem, s.dirty⟩ K)
      | _ => False
    | .block id body => vc T n id body s (fun e s' => match e with
      | .exit id' => bif Nat.beq id' id then K .normal s' else K (.exit id') s'
      | e => K e s')
    | .scope body => vc T n bid body s K
    | .loop body => match assoc T.loops bid with
      | some (PL : PLoop) => ∃ y : PL.Y, (∃ x, (PL.ann y).inv x ∧ slotsEq (renAll (prot T) (PL.ann y).ren s).slots ((PL.ann y).slots x) ∧ memEq (renAll (prot T) (PL.ann y).ren s).mem ((PL.ann y).mem x)) ∧
          ∀ x, (PL.ann y).inv x → (bif headOk (head (PL.ann y) (writes body) (renAll (prot T) (PL.ann y).ren s) x) then vc T n bid body (head (PL.ann y) (writes body) (renAll (prot T) (PL.ann y).ren s) x) (fun e s' => match e with
            | .normal => ∃ x', (PL.ann y).inv x' ∧ (PL.ann y).mu x' < (PL.ann y).mu x ∧ slotsAll (head (PL.ann y) (writes body) (renAll (prot T) (PL.ann y).ren s) x').slots (renAll (prot T) (PL.ann y).ren s').slots ∧ memAll (head (PL.ann y) (writes body) (renAll (prot T) (PL.ann y).ren s) x').mem (renAll (prot T) (PL.ann y).ren s').mem
            | .ret => K .ret s'
            | .exit id => K (.exit id) s') else False)
      | none => False
    | _ => False
/-- One result: out of a slot, or out of the variable that a slot points to. -/
def resOne (T : Tab) (sl : List Slot) (m : List MBlk) : ResultVar → Option SV
  | .tmp a => useOp T sl [] (.tmp a)
  | .cell a t => match assoc T.types t, useOp T sl [] (.tmp a) with
    | some ti, some (.ptr r off) => match nth m r with
      | some (.cells cs) => loadAt ti cs off
      | _ => none
    | _, _ => none
def retSV (T : Tab) (sl : List Slot) (m : List MBlk) (rs : List ResultVar) : Option SV :=
  match rs with
  | [] => some (.tup [])
  | [a] => resOne T sl m a
  | [a, b] => match resOne T sl m a, resOne T sl m b with
    | some x, some y => some (.tup [x, y])
    | _, _ => none
  | [a, b, c] => match resOne T sl m a, resOne T sl m b, resOne T sl m c with
    | some x, some y, some z => some (.tup [x, y, z])
    | _, _, _ => none
  | _ => none
def retK (T : Tab) (rs : List ResultVar) (R : SV → List MBlk → Prop) : Ex → St → Prop
  | .exit _, _ => False
  | _, s => match retSV T s.slots s.mem rs with
    | some v => R v s.mem
    | none => False
def padS : Nat → List Slot
  | 0 => []
  | n + 1 => ⟨[], .dead⟩ :: padS n
def initSlots : List SV → Nat → List Slot
  | [], n => padS n
  | x :: r, n => ⟨[], x⟩ :: initSlots r (n - 1)
/-- What a function's body owes. -/
@[irreducible] def fnVc (T : Tab) (fn : Func) (args : List SV) (m : List MBlk) (R : SV → List MBlk → Prop) : Prop :=
  match fn.body with
  | some c => vc T 1000 0 c ⟨initSlots args fn.ntmps, m, []⟩ (retK T fn.results.toList R)
  | none => False
end Go.Proofs.Ytiokmglajigngaa.Sx
