/-
  A part of the proof (Vx1).
-/
import Derived.WalkKit
import Derived.OrdersHeld
namespace Go.Proofs.YtaeeaniofljmnaaGreatDoor.Sx
set_option linter.unusedSimpArgs false
set_option linter.unusedVariables false
open Go Go.RowKit
abbrev z0a:=@Option.some.injEq
abbrev z0b:=@Nat.eq_of_beq_eq_true
abbrev z0c:=@List.getElem?_eq_some_iff
abbrev z0d:=@Bool.and_eq_true
abbrev z0e:=@of_decide_eq_true
abbrev z0f:=@cond_true
abbrev z0g:=@Prod.mk.injEq
abbrev z0h:=@List.cons_ne_nil
abbrev z0i:=@of_decide_eq_false
abbrev z0j:=@List.getElem?_eq_getElem
abbrev z0k:=@Option.map_eq_some_iff
abbrev z0l:=@cond_false
abbrev z0m:=@Array.getElem?_eq_some_iff
abbrev z0n:=@implies_true
abbrev z0o:=@List.mem_append
abbrev z0p:=@Result.andThen_ok
abbrev z0q:=@Nat.le_refl
abbrev z0r:=@List.mem_singleton
abbrev z0s:=@forall_const
abbrev z0t:=@List.mem_cons
abbrev z0u:=@Nat.blt_eq
abbrev z0v:=@Bool.not_eq_true'
abbrev z0w:=@List.mem_cons_of_mem
abbrev z0x:=@List.length_append
abbrev z0y:=@List.getElem?_append_left
abbrev z0z:=@Sem.run_bind
abbrev z1a:=@Bool.eq_false_iff
abbrev z1b:=@Nat.zero_add
abbrev z1c:=@List.getElem?_append_right
abbrev z1d:=@List.length_cons
abbrev z1f:=@List.append_nil
abbrev z1g:=@decide_eq_false_iff_not
abbrev z1h:=@Bool.true_and
abbrev z1i:=@decide_eq_true_eq
abbrev z1j:=@Value.slice.injEq
abbrev z1k:=@Bool.or_eq_false_iff
abbrev z1l:=@List.mem_cons_self
abbrev z1m:=@Int.toNat_natCast
abbrev z1n:=@Nat.add_zero
abbrev z1o:=@Nat.lt_irrefl
abbrev z1p:=@List.getElem?_cons_succ
abbrev z1q:=@Int.toNat_of_nonneg
abbrev z1r:=@List.getElem_mem
abbrev z1s:=@List.getElem?_drop
abbrev z1t:=@Nat.le_of_ble_eq_true
abbrev z1u:=@Bool.or_eq_true
abbrev z1v:=@List.getElem?_take
abbrev z1w:=@Option.ne_none_iff_exists'
abbrev z1x:=@Nat.mul_le_mul_right
abbrev z1y:=@Bool.and_true
abbrev z1z:=@List.append_assoc
abbrev z2a:=@Nat.le_of_not_lt
abbrev z2b:=@List.mem_map
abbrev z2c:=@Addr.mk.injEq
abbrev z2d:=@Nat.lt_of_lt_of_le
abbrev z2e:=@MapKept.run_getObj_map
abbrev z2f:=@List.map_cons
abbrev z2g:=@World.cell?_of_block
abbrev z2h:=@List.all_eq_true
abbrev z2j:=@List.getElem?_cons_zero
abbrev z2k:=@Nat.not_lt_zero
abbrev z2l:=@Option.map_some
abbrev z2m:=@List.mem_range
abbrev z2n:=@MapKept.run_checkKey
abbrev z2o:=@List.mem_of_getElem?
abbrev z2p:=@Bool.not_true
abbrev z2q:=@MapKept.run_keyThatStays
abbrev z2r:=@Nat.beq_refl
abbrev z2s:=@List.length_map
abbrev z2t:=@Nat.zero_le
abbrev z2u:=@List.cons.injEq
abbrev z2v:=@Option.bind_eq_some_iff
abbrev z2w:=@Bool.not_eq_false'
abbrev z2x:=@Bool.false_eq_true
abbrev z2y:=@List.eq_nil_iff_forall_not_mem
abbrev z2z:=@Nat.ne_of_beq_eq_false
abbrev z3a:=@Nat.mul_le_mul
abbrev z3b:=@Bool.eq_iff_iff
abbrev z3c:=@Bool.not_false
abbrev z3d:=@Array.getElem?_eq_getElem
abbrev z3e:=@Nat.add_assoc
abbrev z3f:=@List.length_singleton
abbrev z3g:=@List.take_append_drop
abbrev z3h:=@Int.eq_ofNat_of_zero_le
abbrev z3j:=@Option.pure_def
abbrev z3k:=@Nat.succ_mul
abbrev z3l:=@List.take_length
abbrev z3m:=@List.getElem?_map
abbrev z3n:=@List.length_nil
abbrev z3o:=@List.nodup_cons
abbrev z3p:=@Array.getElem?_toList
abbrev z3q:=@Sem.run_pure
abbrev z3r:=@Option.map_none
abbrev z3s:=@List.mem_iff_getElem?
abbrev z3t:=@Array.toList_map
abbrev z3u:=@List.mem_iff_getElem
abbrev z3v:=@Option.bind_eq_bind
abbrev z3w:=@List.length_take
abbrev z3y:=@List.length_drop
noncomputable section
inductive SV where
 | tt | ff | nilsl | nilptr | nilmap | dead
 | b (x:Bool)
 | i (k:IntKind) (n:Int)
 | ptr (r off:Nat)
 | pix (r sz ix off:Nat)
 | sl (r n:Nat)
 | sub (r sz lo n:Nat)
 | mp (r:Nat)
 | agg (xs:List SV)
 | tup (xs:List SV)
 | fn (f:Nat) (xs:List SV)
 | yld (r:Nat)
 | v (x:Value)
inductive JC where
 | ret
 | exit (id:Nat)
inductive LSt where
 | ready
 | busy
 | done (j:JC)
structure LupCd where
 ps:Array Tmp
 assign:Code
 body:Code
def LSt.st:LSt→LoopState
 | .ready=>.ready
 | .busy=>.busy
 | .done _=>.done
def JC.code:JC→Code
 | .ret=>.ret
 | .exit id=>.exit id
def LSt.pe:LSt→Option Code
 | .done j=>some j.code
 | _=>none
def c7k:LSt→LSt→Bool
 | .ready,.ready=>true
 | .busy,.busy=>true
 | .done .ret,.done .ret=>true
 | .done (.exit a),.done (.exit b)=>Nat.beq a b
 | _,_=>false
def a3y (st:LSt) (us:List Value) (cd:LupCd) (fn D:Nat):Loop:={ state:=st.st,pending:=st.pe,fn:=fn,tmps:=us.toArray,params:=cd.ps,assign:=cd.assign,body:=cd.body,defers:=D }
inductive Col where
 | int (k:IntKind) (g:Nat→Int)
 | bool (g:Nat→Bool)
 | rows (len:Nat→Nat) (gs:List (Nat→Nat→Int))
 | any
inductive MBlk where
 | cells (cs:List SV)
 | old (cs:List SV)
 | arr (n:Nat) (cols:List Col)
 | oarr (e n:Nat) (cols:List Col)
 | mapi (k:IntKind) (k':Option IntKind) (f:Int→Option Int)
 | mapp (f:Int→Int→Bool)
 | fmapp (f:Int→Int→Bool)
 | iterp (left:Int→Int→Bool) (cur:Option (Int × Int))
 | orows (e e' n:Nat) (hole link:Option Nat) (len:Nat→Nat) (gs:List (Nat→Nat→Int))
 | stk (cs:List SV) (vs:List Value)
 | lup (st:LSt) (us:List Value) (cd:LupCd)
 | gone
structure Slot where
 ch:List (Nat × Bool)
 sv:SV
structure St where
 slots:List Slot
 mem:List MBlk
 dirty:List Nat
inductive Ex where
 | normal | ret | exit (id:Nat)
structure TI where
 kind:Nat
 size:Nat
 bytes:Nat
 zero:List SV
 offs:List (Nat × Nat)
 elem:Nat
 len:Nat
 ik:Option IntKind
 eqk:Option (List (Option IntKind))
 fagg:List Bool:=[]
structure LAnn where
 X:Type
 inv:X→Prop
 slots:X→List (Nat × SV)
 mem:X→List (Nat × MBlk)
 mu:X→Nat
 kill:List Nat:=[]
 ren:List (Nat × Nat):=[]
structure PLoop where
 Y:Type
 ann:Y→LAnn
def PLoop.of (L:LAnn):PLoop:=⟨Unit,fun _=>L⟩
structure AR where
 pre:List Prop
 sv:SV
 new:List MBlk
structure BRes where
 pre:List Prop
 sv:SV
 kill:List Nat
 upd:List (Nat × MBlk)
 new:List MBlk:=[]
inductive Gh where
 | mv (r:Nat)
 | take (r ix:Nat)
 | fresh (r off e w:Nat)
 | freeze (r:Nat)
 | cols (r:Nat) (cs:List Col)
structure Inl where
 fn:Func
 loops:List (Nat × PLoop):=[]
 takes:List (Nat × (List Slot→List MBlk→List Gh)):=[]
 sure:List Nat:=[]
structure Back where
 r:Nat
 s:Nat
 us:List Value
 cd:LupCd
 ps:Array Tmp
 assign:Code
 body:Code
 loops:List (Nat × PLoop)
 takes:List (Nat × (List Slot→List MBlk→List Gh))
 sure:List Nat
structure Tab where
 types:List (Nat × TI)
 globals:List (Nat × Nat)
 calls:List (Nat × (List MBlk→List SV→Option AR))
 loops:List (Nat × PLoop)
 callsB:List (Nat × (List MBlk→List SV→Option BRes)):=[]
 pins:List (Nat × (Option Addr × Nat)):=[]
 takes:List (Nat × (List Slot→List MBlk→List Gh)):=[]
 sure:List Nat:=[]
 inl:List (Nat × Inl):=[]
 back:Option Back:=none
 rmode:Bool:=false
def a8o:List (Nat × (Option Addr × Nat))→List Nat
 | []=>[]
 | p :: r=>p.1 :: a8o r
def a7s:List (Nat × Nat)→List (Nat × (Option Addr × Nat))→List Nat
 | [],ps=>a8o ps
 | g :: r,ps=>g.2 :: a7s r ps
def a1p (T:Tab):List Nat:=a7s T.globals T.pins
universe u
section basics
variable {α:Type u}
def i7:List (Nat × α)→Nat→Option α
 | [],_=>none
 | (k,x) :: r,n=>bif Nat.beq k n then some x else i7 r n
def nth:List α→Nat→Option α
 | [],_=>none
 | x :: _,0=>some x
 | _ :: r,n + 1=>nth r n
def m4:List α→Nat→α→List α
 | [],_,_=>[]
 | _ :: r,0,y=>y :: r
 | x :: r,n + 1,y=>x :: m4 r n y
def b58:Nat→List α→Option (List α)
 | 0,_=>some []
 | n + 1,x :: r=>(b58 n r).map (x :: ·)
 | _ + 1,[]=>none
def a1g:Nat→List α→List α
 | 0,l=>l
 | n + 1,_ :: r=>a1g n r
 | _ + 1,[]=>[]
def a4y:List α→Nat→List α→Option (List α)
 | cs,0,[]=>some cs
 | _ :: r,0,v :: vs=>(a4y r 0 vs).map (v :: ·)
 | x :: r,n + 1,vs=>(a4y r n vs).map (x :: ·)
 | [],0,_ :: _=>none
 | [],_ + 1,_=>none
end basics
def a0b:Nat→List Nat→Bool
 | _,[]=>false
 | n,x :: r=>Nat.beq n x || a0b n r
def kEq:IntKind→IntKind→Bool
 | .i8,.i8=>true
 | .i16,.i16=>true
 | .i32,.i32=>true
 | .i64,.i64=>true
 | .u8,.u8=>true
 | .u16,.u16=>true
 | .u32,.u32=>true
 | .u64,.u64=>true
 | _,_=>false
def ofV:Value→SV
 | .bool true=>.tt
 | .bool false=>.ff
 | .int k n=>.i k n
 | .slice none 0 0=>.nilsl
 | .pointer none=>.nilptr
 | .map none=>.nilmap
 | x=>.v x
def bOf:SV→Option Bool
 | .tt=>some true
 | .ff=>some false
 | .b x=>some x
 | _=>none
def b61:Col→Nat→SV
 | .int k g,j=>.i k (g j)
 | .bool g,j=>.b (g j)
 | .rows _ _,_=>.dead
 | .any,_=>.dead
def b3i:List Col→Nat→List SV
 | [],_=>[]
 | c :: r,j=>b61 c j :: b3i r j
def b7o (x:Nat × Bool):List (Nat × Bool)→Bool
 | []=>false
 | y :: r=>(Nat.beq x.1 y.1 && (x.2 == y.2)) || b7o x r
def b53:List (Nat × Bool)→List (Nat × Bool)→Bool
 | [],_=>true
 | x :: r,c=>b7o x c && b53 r c
def b65 (T:Tab) (sl:List Slot):Operand→Option Slot
 | .tmp t=>nth sl t
 | .const x=>some ⟨[],ofV x⟩
 | .global g=>match i7 T.globals g with
  | some r=>some ⟨[],.ptr r 0⟩
  | none=>none
 | .func f=>some ⟨[],.fn f []⟩
def s4 (T:Tab) (sl:List Slot) (c:List (Nat × Bool)) (x:Operand):Option SV:=
 match b65 T sl x with
 | some s=>bif b53 s.ch c then some s.sv else none
 | none=>none
def a37 (T:Tab) (sl:List Slot) (c:List (Nat × Bool)):List Operand→Option (List SV)
 | []=>some []
 | x :: r=>match s4 T sl c x,a37 T sl c r with
  | some v,some vs=>some (v :: vs)
  | _,_=>none
def a19 (T:Tab) (sl:List Slot) (c:List (Nat × Bool)):List (Nat × Operand)→Option (List (Nat × SV))
 | []=>some []
 | (k,x) :: r=>match s4 T sl c x,a19 T sl c r with
  | some v,some vs=>some ((k,v) :: vs)
  | _,_=>none
def a87:SV→Bool
 | .tt | .ff | .nilsl | .nilptr | .nilmap | .b _ | .i _ _ | .ptr _ _ | .pix _ _ _ _ | .sl _ _ | .sub _ _ _ _ | .mp _ | .fn _ _ | .yld _=>true
 | _=>false
def cellsOf:SV→Option (List SV)
 | .agg xs=>some xs
 | x=>bif a87 x then some [x] else none
def a8u:List SV→Bool
 | []=>true
 | x :: r=>a87 x && a8u r
def c19 (op:BinOp) (k:IntKind) (x y:Int):Option (List Prop × SV):=
 match op with
 | .add=>some ([],.i k (k.wrap (x + y)))
 | .sub=>some ([],.i k (k.wrap (x - y)))
 | .mul=>some ([],.i k (k.wrap (x * y)))
 | .quo=>some ([y≠0],.i k (k.wrap (x.tdiv y)))
 | .rem=>some ([y≠0],.i k (x.tmod y))
 | .and=>some ([],.i k (bits .and k x y))
 | .or=>some ([],.i k (bits .or k x y))
 | .xor=>some ([],.i k (bits .xor k x y))
 | .andNot=>some ([],.i k (bits .andNot k x y))
 | .eql=>some ([],.b (x == y))
 | .neq=>some ([],.b (x != y))
 | .lss=>some ([],.b (decide (x < y)))
 | .leq=>some ([],.b (decide (x≤y)))
 | .gtr=>some ([],.b (decide (x > y)))
 | .geq=>some ([],.b (decide (x ≥ y)))
 | _=>none
def b0p:Option IntKind→SV→SV→Option Bool
 | some k,.i k' a,.i k'' b=>bif kEq k k' && kEq k k'' then some (a == b) else none
 | none,x,y=>match bOf x,bOf y with
  | some a,some b=>some (a == b)
  | _,_=>none
 | _,_,_=>none
def a1s:List (Option IntKind)→List SV→List SV→Option Bool
 | [],[],[]=>some true
 | [k],[x],[y]=>b0p k x y
 | k :: ks,x :: xs,y :: ys=>match b0p k x y,a1s ks xs ys with
  | some p,some q=>some (p && q)
  | _,_=>none
 | _,_,_=>none
def c7n (c:Bool) (x y:SV):Option SV:=
 match x,y with
 | .i k a,.i k' b=>bif kEq k k' then some (.i k (bif c then a else b)) else none
 | .tt,y=>match bOf y with
  | some b=>some (.b (c || b))
  | none=>none
 | x,.ff=>match bOf x with
  | some a=>some (.b (c && a))
  | none=>none
 | x,y=>match bOf x,bOf y with
  | some a,some b=>some (.b (bif c then a else b))
  | _,_=>none
def loadAt (ti:TI) (cs:List SV) (off:Nat):Option SV:=
 bif (Nat.beq ti.kind 1 || Nat.beq ti.kind 2) then(b58 ti.size (a1g off cs)).map .agg else nth cs off
def a0y (offs:Nat→Option (Nat × Nat)):List SV→List (Nat × SV)→Option (List SV)
 | cs,[]=>some cs
 | cs,(k,v) :: r=>match offs k,cellsOf v with
  | some o,some vs=>bif Nat.beq vs.length o.2 then(match a4y cs o.1 vs with
   | some cs'=>a0y offs cs' r
   | none=>none) else none
  | _,_=>none
def d9:List Int→Nat→Int
 | [],_=>0
 | [x],_=>x
 | x :: r,j=>bif Nat.beq j 0 then x else d9 r (j - 1)
def q7:List Bool→Nat→Bool
 | [],_=>false
 | [x],_=>x
 | x :: r,j=>bif Nat.beq j 0 then x else q7 r (j - 1)
def allI (k:IntKind):List SV→Option (List Int)
 | []=>some []
 | .i k' n :: r=>bif kEq k k' then(allI k r).map (n :: ·) else none
 | _=>none
def c6o:List SV→Option (List Bool)
 | []=>some []
 | x :: r=>match bOf x,c6o r with
  | some b,some l=>some (b :: l)
  | _,_=>none
def c36:List SV→Col
 | []=>.any
 | .i k n :: r=>match allI k (.i k n :: r) with
  | some l=>.int k (d9 l)
  | none=>.any
 | l=>match c6o l with
  | some l=>.bool (q7 l)
  | none=>.any
def a8a (cs:List SV) (sz:Nat):Nat→Nat→List SV
 | _,0=>[]
 | k,n + 1=>(match nth cs k with | some v=>v | none=>.dead) :: a8a cs sz (k + sz) n
def a3j (cs:List SV) (sz len:Nat):Nat→Nat→List Col
 | _,0=>[]
 | k,n + 1=>c36 (a8a cs sz k len) :: a3j cs sz len (k + 1) n
def b4t (z:List SV):Nat→List SV
 | 0=>[]
 | n + 1=>z ++ b4t z n
def a1b {α:Type}:Nat→α→List α
 | 0,_=>[]
 | n + 1,x=>x :: a1b n x
def bin (T:Tab) (t:Nat) (op:BinOp) (x y:SV):Option (List Prop × SV):=
 match x,y with
 | .i k a,.i k' b=>match op with
  | .shl=>some ([0≤b∧b≤(k.bits:Int)],.i k (k.wrap (a * 2 ^ b.toNat)))
  | .shr=>some ([0≤b∧b≤(k.bits:Int)],.i k (a / 2 ^ b.toNat))
  | op=>bif kEq k k' then c19 op k a b else none
 | .sl _ n,.nilsl=>match op,i7 T.types t with
  | .eql,some ti=>bif Nat.beq ti.kind 3 then some ([0 < n],.ff) else none
  | _,_=>none
 | .nilsl,.nilsl=>match op,i7 T.types t with
  | .eql,some ti=>bif Nat.beq ti.kind 3 then some ([],.tt) else none
  | _,_=>none
 | x,y=>match bOf x,bOf y,i7 T.types t with
  | some a,some b,some ti=>bif Nat.beq ti.kind 5 then(match op with
   | .eql=>some ([],.b (a == b))
   | .neq=>some ([],.b (!(a == b)))
   | _=>none) else none
  | _,_,_=>none
def b04:Option SV→Option AR
 | some v=>some ⟨[],v,[]⟩
 | none=>none
def notB:SV→Option SV
 | .tt=>some .ff
 | .ff=>some .tt
 | .b x=>some (.b (!x))
 | _=>none
def a2n (T:Tab) (ts:List Nat):Bool:=
 match ts with
 | t :: _=>match i7 T.types t with
  | some ti=>Nat.beq ti.kind 3
  | none=>false
 | []=>false
def b97 (T:Tab) (ts:List Nat):Bool:=
 match ts with
 | t :: _=>match i7 T.types t with
  | some ti=>Nat.beq ti.kind 6
  | none=>false
 | []=>false
def c0o (s:ByteArray) (n:Int):Int:=match s[n.toNat]? with
 | some b=>(b.toNat:Int)
 | none=>0
noncomputable def b38 (f:Int→Option Int):Nat:=open Classical in if h:∃ l:List Int,l.Nodup∧∀ a,a∈l↔f a≠none then h.choose.length else 0
def c1r (T:Tab) (ts:List Nat):Bool:=
 match ts with
 | t :: _=>match i7 T.types t with
  | some ti=>Nat.beq ti.kind 4
  | none=>false
 | []=>false
noncomputable def b0w (T:Tab) (m:List MBlk) (b:Builtin) (ts:List Nat) (vs:List SV):Option AR:=
 match b,vs with
 | .len,[.mp r]=>match nth m r with
  | some (.mapi _ _ f)=>bif c1r T ts then some ⟨[],.i .i64 (b38 f),[]⟩ else none
  | _=>none
 | _,_=>none
def a2h (T:Tab) (b:Builtin) (ts:List Nat) (vs:List SV):Option AR:=
 match b,vs with
 | .len,[.sl _ n]=>bif a2n T ts then some ⟨[],.i .i64 n,[]⟩ else none
 | .len,[.sub _ _ _ n]=>bif a2n T ts then some ⟨[],.i .i64 n,[]⟩ else none
 | .len,[.nilsl]=>bif a2n T ts then some ⟨[],.i .i64 0,[]⟩ else none
 | .len,[.v (.string s)]=>bif b97 T ts then some ⟨[],.i .i64 s.size,[]⟩ else none
 | .max,[.i k x,.i k' y]=>bif kEq k k' then some ⟨[],.i k (if y > x then y else x),[]⟩ else none
 | .min,[.i k x,.i k' y]=>bif kEq k k' then some ⟨[],.i k (if y < x then y else x),[]⟩ else none
 | _,_=>none
def a1d:List (Nat→Nat→Int)→Nat→List Col
 | [],_=>[]
 | g :: r,ix=>.int .i64 (g ix) :: a1d r ix
def b7y (ti:TI) (cols:List Col) (ix off base:Nat):Option (SV × List MBlk):=
 bif Nat.beq ti.kind 3 then(match nth cols off with
  | some (.rows len gs)=>some (.sl base (len ix),[.arr (len ix) (a1d gs ix)])
  | _=>none) else bif Nat.beq ti.kind 1 && Nat.beq ti.size 2 && Nat.beq off 0 then(match cols with
  | [.int .i64 g,.rows len gs]=>some (.agg [.i .i64 (g ix),.sl base (len ix)],[.arr (len ix) (a1d gs ix)])
  | _=>none) else none
def a9v (ti:TI) (n:Nat) (cols:List Col) (sz ix off base:Nat):Option AR:=
 bif Nat.beq sz cols.length then(match b7y ti cols ix off base with
  | some p=>some ⟨[ix < n],p.1,p.2⟩
  | none=>match loadAt ti (b3i cols ix) off with
   | some v=>some ⟨[ix < n],v,[]⟩
   | none=>none) else none
def a6j:MBlk→Option (Nat × List Col)
 | .arr n cols=>some (n,cols)
 | .oarr _ n cols=>some (n,cols)
 | _=>none
def c2a:MBlk→Bool
 | .oarr _ _ _=>true
 | _=>false
def b8i (m:List MBlk) (te:TI) (v:SV) (lo hi:Option SV):Option AR:=
 match v with
 | .sl r n=>match nth m r with
  | some kq=>match a6j kq with
   | some (n',_)=>match lo,hi with
    | none,none=>some ⟨[n=n'],.sub r te.size 0 n,[]⟩
    | some (.i _ l),none=>some ⟨[n=n',0≤l,l≤n],.sub r te.size l.toNat (n - l.toNat),[]⟩
    | none,some (.i _ b)=>bif c2a kq then none else some ⟨[n=n',0≤b,b≤n],.sub r te.size 0 b.toNat,[]⟩
    | some (.i _ l),some (.i _ b)=>some ⟨[n=n',0≤l,l≤b,b≤n],.sub r te.size l.toNat (b.toNat - l.toNat),[]⟩
    | _,_=>none
   | none=>none
  | none=>none
 | _=>none
def a1x:Option Int→Int
 | some v=>v
 | none=>0
def isS:Option Int→Bool
 | some _=>true
 | none=>false
def zz (a:Int):Nat:=match a with
 | .ofNat n=>2 * n
 | .negSucc n=>2 * n + 1
def pk (a b:Int):Int:=(((zz a + zz b) * (zz a + zz b) + zz a:Nat):Int)
def a3m (T:Tab) (t:Nat):Option (IntKind × Option IntKind):=
 match i7 T.types t with
 | some ti=>bif Nat.beq ti.kind 4 then(match i7 T.types ti.elem,i7 T.types ti.len with
  | some tk,some tv=>match tk.ik,tv.ik,tv.zero with
   | some k,some k',[.i q (.ofNat 0)]=>bif Nat.beq tk.kind 0 && Nat.beq tv.kind 0 && kEq q k' && !(kEq k .i8) then some (k,some k') else none
   | some k,none,[.ff]=>bif Nat.beq tk.kind 0 && Nat.beq tv.kind 5 && !(kEq k .i8) then some (k,none) else none
   | none,some k',[.i q (.ofNat 0)]=>match tk.eqk with
    | some [some .i64,some .i64]=>bif Nat.beq tk.kind 1 && Nat.beq tv.kind 0 && kEq q k' then some (.i8,some k') else none
    | _=>none
   | _,_,_=>none
  | _,_=>none) else none
 | none=>none
def oEq:Option IntKind→Option IntKind→Bool
 | some k,some k'=>kEq k k'
 | none,none=>true
 | _,_=>false
def svV:Option IntKind→Int→SV
 | some k,v=>.i k v
 | none,v=>.b (v != 0)
def c0y:Option IntKind→SV→Option Int
 | some k,.i q v=>bif kEq k q then some v else none
 | none,x=>match bOf x with
  | some b=>some (bif b then 1 else 0)
  | none=>none
 | _,_=>none
def a2z (T:Tab) (t:Nat):Bool:=
 match i7 T.types t with
 | some ti=>bif Nat.beq ti.kind 4 then(match i7 T.types ti.elem,i7 T.types ti.len with
  | some tk,some tv=>match tk.eqk,tv.zero with
   | some [some .i64,some .i64],[.ff]=>Nat.beq tk.kind 2 && Nat.beq tk.len 2 && Nat.beq tv.kind 5
   | _,_=>false
  | _,_=>false) else false
 | none=>false
def b86:SV→Option (Int × Int)
 | .agg [.i .i64 a,.i .i64 b]=>some (a,b)
 | _=>none
def b05:MBlk→Option (Int→Int→Bool)
 | .mapp f=>some f
 | .fmapp f=>some f
 | _=>none
def a71 (T:Tab) (sl:List Slot) (c:List (Nat × Bool)):Option Operand→Option (Option SV)
 | none=>some none
 | some x=>match s4 T sl c x with
  | some v=>some (some v)
  | none=>none
def b2w:SV→Col
 | .ff=>.bool (fun _=>false)
 | .i k n=>.int k (fun _=>n)
 | .nilsl=>.rows (fun _=>0) []
 | _=>.any
def a3q:List SV→List Col
 | []=>[]
 | z :: r=>b2w z :: a3q r
def b7z (e:Nat) (te:TI) (n:Nat):MBlk:=
 match te.zero with
 | [.nilsl]=>bif Nat.blt 0 te.len then .orows e te.elem n none none (fun _=>0) (a1b te.len (fun _ _=>0)) else .oarr e n (a3q te.zero)
 | _=>.oarr e n (a3q te.zero)
def c6w (m:List MBlk) (r:Nat) (y:Operand):Option Nat:=
 match nth m r,y with
 | some (.cells _),.const (.int _ (.ofNat k))=>some k
 | some (.old _),.const (.int _ (.ofNat k))=>some k
 | _,_=>none
def a4d (T:Tab) (sl:List Slot) (c:List (Nat × Bool)):Callee→Option (Nat × List SV)
 | .value x=>match s4 T sl c x with
  | some (.fn f xs)=>some (f,xs)
  | _=>none
 | _=>none
def c3a (ti:TI) (xs:List SV) (k:Nat):Option SV:=
 match nth ti.offs k,nth ti.fagg k with
 | some o,some true=>(b58 o.2 (a1g o.1 xs)).map .agg
 | some o,some false=>bif Nat.beq o.2 1 then nth xs o.1 else none
 | _,_=>none
def d5p:List SV→Bool
 | []=>true
 | .sl _ _ :: _=>false
 | _ :: r=>d5p r
def b9d (T:Tab):Bool:=a0b 1000000 T.sure
def b19 (T:Tab) (sl:List Slot) (m:List MBlk) (c:List (Nat × Bool)) (t len:Nat) (ps:Array (Nat × Operand)):Option AR:=
 bif b9d T then(match i7 T.types t,a19 T sl c ps.toList with
  | some ti,some [(0,.sl q n)]=>match i7 T.types ti.elem with
   | some te=>bif Nat.beq len 1 && Nat.beq ti.kind 3 && Nat.beq te.kind 3 && Nat.beq te.size 1 && Nat.beq te.zero.length 1 && Nat.blt q m.length then
     some ⟨[],.sl m.length 1,[.orows ti.elem te.elem 1 (some 0) (some q) (fun _=>n) [fun _ _=>0]]⟩ else none
   | none=>none
  | _,_=>none) else none
def a80 (T:Tab) (sl:List Slot) (m:List MBlk) (c:List (Nat × Bool)) (t:Nat) (x:Operand) (lo hi:Option Operand):Option AR:=
 bif a0b 1000001 T.sure then(match i7 T.types t,s4 T sl c x,lo,a71 T sl c hi with
  | some ti,some (.sl r n),none,some (some (.i _ b))=>match i7 T.types ti.elem,nth m r with
   | some te,some (.arr n' cols)=>bif Nat.beq ti.kind 3 && Nat.beq te.size cols.length then some ⟨[n=n',0≤b,b≤n],.sl m.length b.toNat,[.arr b.toNat cols]⟩ else none
   | _,_=>none
  | _,_,_,_=>none) else none
def s7 (T:Tab) (sl:List Slot) (m:List MBlk) (c:List (Nat × Bool)) (oty:Nat) (op:Op):Option AR:=
 match op with
 | .move x=>b04 (s4 T sl c x)
 | .assign x=>match s4 T sl c x with
   | some .nilsl=>match i7 T.types oty with
    | some ti=>bif Nat.beq ti.kind 3 && Nat.ble 1 ti.len then some ⟨[],.sl m.length 0,[.oarr ti.elem 0 (a1b ti.len .any)]⟩ else some ⟨[],.nilsl,[]⟩
    | none=>some ⟨[],.nilsl,[]⟩
   | r=>b04 r
 | .pick (.tmp q) x y=>match s4 T sl c (.tmp q) with
   | some .tt=>b04 (s4 T sl c x)
   | some .ff=>b04 (s4 T sl c y)
   | some (.b cb)=>match s4 T sl ((q,true) :: c) x,s4 T sl ((q,false) :: c) y with
    | some vx,some vy=>b04 (c7n cb vx vy)
    | _,_=>none
   | _=>none
 | .alloc t=>match i7 T.types t with
   | some ti=>match ti.zero with
    | []=>none
    | z=>some ⟨[],.ptr m.length 0,[.cells z]⟩
   | none=>none
 | .box _ x=>match s4 T sl c x with
   | some v=>match cellsOf v with
    | some cs=>some ⟨[],.ptr m.length 0,[.cells cs]⟩
    | none=>none
   | none=>none
 | .build t ps=>match i7 T.types t,a19 T sl c ps.toList with
   | some ti,some vs=>bif Nat.beq ti.kind 1 && !ti.zero.isEmpty then b04 ((a0y (nth ti.offs) ti.zero vs).map .agg) else
     (bif Nat.beq ti.kind 2 && !ti.zero.isEmpty then(match i7 T.types ti.elem with
      | some te=>b04 ((a0y (fun k=>bif Nat.blt k ti.len then some (k * te.size,te.size) else none) ti.zero vs).map .agg)
      | none=>none) else none)
   | _,_=>none
 | .buildSlice t len ps=>match b19 T sl m c t len ps with
  | some ar=>some ar
  | none=>match i7 T.types t,a19 T sl c ps.toList with
   | some ti,some vs=>match i7 T.types ti.elem with
    | some te=>bif Nat.beq ti.kind 3 && Nat.ble (len * te.size) 1000 && Nat.ble 1 te.size && Nat.beq te.zero.length te.size && !(Nat.beq te.kind 3 && Nat.ble 1 len) then
      (match a0y (fun k=>bif Nat.blt k len then some (k * te.size,te.size) else none) (b4t te.zero len) vs with
      | some cs=>bif d5p cs then some ⟨[],.sl m.length len,[.oarr ti.elem len (a3j cs te.size len 0 te.size)]⟩ else none
      | none=>none) else none
    | none=>none
   | _,_=>none
 | .load t x=>match i7 T.types t,s4 T sl c x with
   | some ti,some (.ptr r off)=>match nth m r with
    | some (.cells cs)=>b04 (loadAt ti cs off)
    | some (.old cs)=>b04 (loadAt ti cs off)
    | _=>none
   | some ti,some (.pix r sz ix off)=>match nth m r with
    | some (.arr n cols)=>a9v ti n cols sz ix off m.length
    | some (.oarr _ n cols)=>a9v ti n cols sz ix off m.length
    | some (.orows _ e' n (some h) (some q) len _)=>bif Nat.beq ti.kind 3 && Nat.beq sz 1 && Nat.beq off 0 && Nat.beq ti.elem e' then some ⟨[ix < n,ix=h],.sl q (len h),[]⟩ else none
    | _=>none
   | _,_=>none
 | .slice t x lo hi none=>match a80 T sl m c t x lo hi with
  | some ar=>some ar
  | none=>match i7 T.types t,s4 T sl c x,a71 T sl c lo,a71 T sl c hi with
   | some ti,some v,some lo,some hi=>match i7 T.types ti.elem with
    | some te=>bif Nat.beq ti.kind 3 then b8i m te v lo hi else none
    | none=>none
   | _,_,_,_=>none
 | .makeMap t none=>match a3m T t with
   | some (k,k')=>some ⟨[],.mp m.length,[.mapi k k' (fun _=>none)]⟩
   | none=>bif a2z T t then some ⟨[],.mp m.length,[.mapp (fun _ _=>false)]⟩ else none
 | .lookup t x y ok=>match s4 T sl c x,s4 T sl c y with
   | some (.mp r),some (.i q n)=>match a3m T t,nth m r with
    | some (k,k'),some (.mapi k2 k2' f)=>bif kEq k k2 && oEq k' k2' && kEq k q && !(kEq k .i8) then some ⟨[],bif ok then .tup [svV k' (a1x (f n)),.b (isS (f n))] else svV k' (a1x (f n)),[]⟩ else none
    | _,_=>none
   | some (.mp r),some v=>match b86 v,nth m r with
    | some (p,q),some (.mapi k2 k2' f)=>match a3m T t with
     | some (k,k')=>bif kEq k k2 && oEq k' k2' && kEq k .i8 then some ⟨[],bif ok then .tup [svV k' (a1x (f (pk p q))),.b (isS (f (pk p q)))] else svV k' (a1x (f (pk p q))),[]⟩ else none
     | none=>none
    | some (p,q),some k=>match b05 k with
     | some f=>bif a2z T t && !ok then some ⟨[],.b (f p q),[]⟩ else none
     | none=>none
    | _,_=>none
   | _,_=>none
 | .makeSlice t x y=>match i7 T.types t,s4 T sl c x,s4 T sl c y with
   | some ti,some (.i _ l),some (.i _ d)=>match i7 T.types ti.elem with
    | some te=>bif Nat.beq ti.kind 3 && Nat.ble 1 te.size && Nat.beq te.zero.length te.size then
      (match x with
      | .const (.int _ (.ofNat 0))=>some ⟨[0≤d,(te.bytes:Int) * d≤281474976710656,d≤9223372036854775807],.sl m.length 0,[.oarr ti.elem 0 (a1b te.size .any)]⟩
      | _=>some ⟨[0≤l,d=l,(te.bytes:Int) * l≤281474976710656,l≤9223372036854775807],.sl m.length l.toNat,[b7z ti.elem te l.toNat]⟩) else none
    | none=>none
   | _,_,_=>none
 | .binOp op t x y _=>match s4 T sl c x,s4 T sl c y with
   | some (.agg a),some (.agg b)=>match i7 T.types t with
    | some ti=>match ti.eqk with
     | some ks=>match a1s ks a b,op with
      | some z,.eql=>some ⟨[],.b z,[]⟩
      | some z,.neq=>some ⟨[],.b (!z),[]⟩
      | _,_=>none
     | none=>none
    | none=>none
   | some a,some b=>match bin T t op a b with
    | some (p,v)=>some ⟨p,v,[]⟩
    | none=>none
   | _,_=>none
 | .unOp op _ x=>match op,s4 T sl c x with
   | .not,some v=>b04 (notB v)
   | .neg,some (.i k n)=>some ⟨[],.i k (k.wrap (0 - n)),[]⟩
   | _,_=>none
 | .fieldAddr t x k=>match i7 T.types t with
   | some ti=>bif Nat.beq ti.kind 1 then(match nth ti.offs k,s4 T sl c x with
    | some o,some (.ptr r off)=>bif Nat.beq o.2 0 then none else some ⟨[],.ptr r (off + o.1),[]⟩
    | some o,some (.pix r sz ix off)=>bif Nat.beq o.2 0 then none else some ⟨[],.pix r sz ix (off + o.1),[]⟩
    | _,_=>none) else none
   | none=>none
 | .indexAddr t x y=>match i7 T.types t,s4 T sl c x,s4 T sl c y with
   | some ti,some v,some (.i _ n)=>match i7 T.types ti.elem with
    | some te=>match v with
     | .ptr r off=>match c6w m r y with
      | some k=>bif Nat.beq ti.kind 2 && Nat.blt k ti.len && Nat.beq te.size 1 then some ⟨[],.ptr r (off + k),[]⟩ else none
      | none=>bif Nat.beq ti.kind 2 && Nat.beq off 0 then some ⟨[0≤n∧n < ti.len],.pix r te.size n.toNat 0,[]⟩ else none
     | .sl r len=>bif Nat.beq ti.kind 3 then some ⟨[0≤n∧n < len],.pix r te.size n.toNat 0,[]⟩ else none
     | .sub r sz lo len=>bif Nat.beq ti.kind 3 && Nat.beq sz te.size then some ⟨[0≤n∧n < len],.pix r sz (lo + n.toNat) 0,[]⟩ else none
     | .pix r sz ix off=>match y with
      | .const (.int _ (.ofNat k))=>bif Nat.beq ti.kind 2 && Nat.blt k ti.len && Nat.beq te.size 1 then some ⟨[],.pix r sz ix (off + k),[]⟩ else none
      | _=>none
     | _=>none
    | none=>none
   | _,_,_=>none
 | .index t x y=>match i7 T.types t,s4 T sl c x,s4 T sl c y with
   | some ti,some (.v (.string s)),some (.i _ n)=>bif Nat.beq ti.kind 6 then some ⟨[0≤n∧n < s.size],.i .u8 (c0o s n),[]⟩ else none
   | _,_,_=>none
 | .convert s d x=>match i7 T.types s,i7 T.types d,s4 T sl c x with
   | some _,some ti,some (.i _ n)=>match ti.ik with
    | some k=>bif Nat.beq ti.kind 0 then some ⟨[],.i k (k.wrap n),[]⟩ else none
    | none=>none
   | _,_,_=>none
 | .extract x k=>match s4 T sl c x with
   | some (.tup xs)=>b04 (nth xs k)
   | _=>none
 | .makeFunc (.func f) fs xs=>match fs.toList,a37 T sl c xs.toList with
   | [],some vs=>some ⟨[],.fn f vs,[]⟩
   | _,_=>none
 | .entry x=>match s4 T sl c x with
   | some (.ptr r 0)=>match nth m r with
    | some (.iterp _ (some (a,b)))=>some ⟨[],.tup [.agg [.i .i64 a,.i .i64 b],.tt],[]⟩
    | _=>none
   | _=>none
 | .field t x k=>match i7 T.types t,s4 T sl c x with
   | some ti,some (.agg xs)=>bif Nat.beq ti.kind 1 then b04 (c3a ti xs k) else none
   | _,_=>none
 | .call cl=>match cl.callee with
   | .builtin b=>match a37 T sl c cl.args.toList with
    | some vs=>match b0w T m b cl.argTypes.toList vs with
     | some ar=>some ar
     | none=>a2h T b cl.argTypes.toList vs
    | none=>none
   | _=>match a4d T sl c cl.callee,a37 T sl c cl.args.toList with
    | some (f,ys),some vs=>match i7 T.calls f with
     | some F=>F m (vs ++ ys)
     | none=>none
    | _,_=>none
 | _=>none
mutual
def SV.refs:SV→List Nat→Bool
 | .ptr r _,l=>a0b r l
 | .pix r _ _ _,l=>a0b r l
 | .sl r _,l=>a0b r l
 | .sub r _ _ _,l=>a0b r l
 | .mp r,l=>a0b r l
 | .agg xs,l=>a4i xs l
 | .tup xs,l=>a4i xs l
 | .fn _ xs,l=>a4i xs l
 | .yld r,l=>a0b r l
 | _,_=>false
def a4i:List SV→List Nat→Bool
 | [],_=>false
 | x :: r,l=>SV.refs x l || a4i r l
end
def a4m (l:List Nat) (x:SV):SV:=bif x.refs l then .dead else x
def a25 (l:List Nat):List Slot→List Slot
 | []=>[]
 | s :: r=>⟨s.ch,a4m l s.sv⟩ :: a25 l r
def s5 (l:List Nat):List SV→List SV
 | []=>[]
 | x :: r=>a4m l x :: s5 l r
def a5g (l:List Nat):Option Nat→Option Nat
 | none=>none
 | some q=>bif a0b q l then none else some q
def n7 (l:List Nat):MBlk→MBlk
 | .cells cs=>.cells (s5 l cs)
 | .old cs=>.old (s5 l cs)
 | .stk cs vs=>.stk (s5 l cs) vs
 | .orows e e' n h k len gs=>.orows e e' n h (a5g l k) len gs
 | k=>k
def a0u (l:List Nat):List MBlk→List MBlk
 | []=>[]
 | k :: r=>n7 l k :: a0u l r
def x7:List MBlk→List (Nat × MBlk)→List MBlk
 | m,[]=>m
 | m,(r,k) :: u=>x7 (m4 m r k) u
def a9k:Col→Bool
 | .any=>false
 | _=>true
def a3a:List Col→Bool
 | []=>true
 | c :: r=>a9k c && a3a r
def b1z (n:Nat):List (Nat→Nat→Int)→List (Nat→Nat→Int)→List (Nat→Nat→Int)
 | g :: r,g' :: r'=>(fun j=>bif Nat.blt j n then g j else g' (j - n)) :: b1z n r r'
 | _,_=>[]
def b0m (n:Nat):Col→Col→Col
 | .rows len gs,.rows len' gs'=>bif Nat.beq gs.length gs'.length then .rows (fun j=>bif Nat.blt j n then len j else len' (j - n)) (b1z n gs gs') else .any
 | .any,.rows len' gs'=>bif Nat.beq n 0 then .rows len' gs' else .any
 | .int k g,.int k' g'=>bif kEq k k' then .int k (fun j=>bif Nat.blt j n then g j else g' (j - n)) else .any
 | .bool g,.bool g'=>.bool (fun j=>bif Nat.blt j n then g j else g' (j - n))
 | .any,.int k g=>bif Nat.beq n 0 then .int k g else .any
 | .any,.bool g=>bif Nat.beq n 0 then .bool g else .any
 | _,_=>.any
def a2m (n:Nat):List Col→List Col→List Col
 | c :: r,c' :: r'=>b0m n c c' :: a2m n r r'
 | _,_=>[]
def a2y (lo:Nat):Col→Col
 | .int k g=>.int k (fun j=>g (lo + j))
 | .bool g=>.bool (fun j=>g (lo + j))
 | .rows len gs=>.rows (fun j=>len (lo + j)) (dropG lo gs)
 | .any=>.any
where dropG (lo:Nat):List (Nat→Nat→Int)→List (Nat→Nat→Int)
 | []=>[]
 | g :: r=>(fun j=>g (lo + j)) :: dropG lo r
def a4e (lo:Nat):List Col→List Col
 | []=>[]
 | c :: r=>a2y lo c :: a4e lo r
def b34:List Col→Option (List (Nat→Nat→Int))
 | []=>some []
 | .int .i64 g :: r=>match b34 r with
  | some l=>some ((fun _=>g) :: l)
  | none=>none
 | _=>none
def b1g (c:Col) (ix:Nat) (v:SV):Option Col:=
 match c,v with
 | .int k g,.i k' a=>bif kEq k k' then some (.int k (fun j=>bif Nat.beq j ix then a else g j)) else none
 | .bool g,v=>match bOf v with
  | some b=>some (.bool (fun j=>bif Nat.beq j ix then b else g j))
  | none=>none
 | _,_=>none
def a5l:List Col→Nat→Nat→List SV→Option (List Col)
 | cs,0,_,[]=>some cs
 | c :: r,0,ix,v :: vs=>match b1g c ix v,a5l r 0 ix vs with
  | some c',some r'=>some (c' :: r')
  | _,_=>none
 | c :: r,o + 1,ix,vs=>match a5l r o ix vs with
  | some r'=>some (c :: r')
  | none=>none
 | [],0,_,_ :: _=>none
 | [],_ + 1,_,_=>none
def b0k:List Col→Option (List (Nat→Int))
 | []=>some []
 | .int .i64 g :: r=>match b0k r with
  | some l=>some (g :: l)
  | none=>none
 | _=>none
def b2e (ix:Nat):List (Nat→Nat→Int)→List (Nat→Int)→List (Nat→Nat→Int)
 | g :: r,h :: s=>(fun j=>bif Nat.beq j ix then h else g j) :: b2e ix r s
 | r,_=>r
def a96 (T:Tab) (sl:List Slot) (m:List MBlk) (c:List (Nat × Bool)) (t:Nat) (x y z:Operand):Option BRes:=
 match s4 T sl c x,s4 T sl c y,s4 T sl c z with
  | some (.mp r),some (.i q n),some z=>match a3m T t,nth m r with
   | some (k,k'),some (.mapi k2 k2' f)=>match c0y k' z with
    | some v=>bif kEq k k2 && oEq k' k2' && kEq k q && !(kEq k .i8) then some ⟨[],.v undef,[],[(r,.mapi k2 k2' (fun j=>bif j == n then some v else f j))],[]⟩ else none
    | none=>none
   | _,_=>none
  | some (.mp r),some v,some z=>match b86 v,nth m r,z with
   | some (p,q),some (.mapi k2 k2' f),z=>match a3m T t with
    | some (k,k')=>match c0y k' z with
     | some v=>bif kEq k k2 && oEq k' k2' && kEq k .i8 then some ⟨[],.v undef,[],[(r,.mapi k2 k2' (fun j=>bif j == pk p q then some v else f j))],[]⟩ else none
     | none=>none
    | none=>none
   | some (p,q),some (.mapp f),.tt=>bif a2z T t then some ⟨[],.v undef,[],[(r,.mapp (fun a b=>(a == p && b == q) || f a b))],[]⟩ else none
   | _,_,_=>none
  | _,_,_=>none
def s9 {α:Type} (a b c:α):Nat→α
 | 0=>a
 | 1=>b
 | _=>c
def a1q (T:Tab) (sl:List Slot) (m:List MBlk) (c:List (Nat × Bool)) (op:Op):Option BRes:=
 match op with
 | .store t x y=>match i7 T.types t,s4 T sl c x,s4 T sl c y with
   | some ti,some (.ptr r off),some v=>match nth m r,cellsOf v with
     | some (.cells cs),some vs=>bif Nat.beq vs.length ti.size && a8u vs then(match a4y cs off vs with
      | some cs'=>some ⟨[],.v undef,[],[(r,.cells cs')],[]⟩
      | none=>none) else none
     | _,_=>none
   | some ti,some (.pix r sz ix 0),some (.sl q k)=>match nth m r,nth m q with
     | some (.orows e e' n (some h) _ len gs),some (.oarr e2 n2 cols)=>match b0k cols with
      | some g=>bif Nat.beq ti.size 1 && Nat.beq sz 1 && Nat.beq e' e2 && Nat.beq gs.length cols.length && !(Nat.beq r q) then
        some ⟨[ix < n,ix=h,k=n2],.v undef,[],[(r,.orows e e' n none none (fun j=>bif Nat.beq j ix then k else len j) (b2e ix gs g)),(q,.gone)],[]⟩ else none
      | none=>none
     | _,_=>none
   | some ti,some (.pix r sz ix off),some v=>match nth m r,cellsOf v with
     | some (.oarr e n cols),some vs=>bif Nat.beq vs.length ti.size && a8u vs && Nat.beq sz cols.length && Nat.ble 1 vs.length then(match a5l cols off ix vs with
      | some cols'=>some ⟨[ix < n],.v undef,[],[(r,.oarr e n cols')],[]⟩
      | none=>none) else none
     | _,_=>none
   | _,_,_=>none
 | .mapUpdate t x y z=>a96 T sl m c t x y z
 | .insert t x y z=>a96 T sl m c t x y z
 | .buildSlice t (.succ .zero) ps=>match i7 T.types t,a19 T sl c ps.toList with
   | some ti,some [(0,.sl q n)]=>match i7 T.types ti.elem,nth m q with
     | some te,some (.oarr _ n' cols)=>match b34 cols with
      | some gs=>bif Nat.beq ti.kind 3 && Nat.beq te.kind 3 && Nat.beq te.size 1 && Nat.beq te.zero.length 1 then some ⟨[n=n'],.sl m.length 1,[],[(q,.arr n' cols)],[.oarr ti.elem 1 [.rows (fun _=>n) gs]]⟩ else none
      | none=>none
     | _,_=>none
   | _,_=>none
 | .slice t x none (some y) none=>match i7 T.types t,s4 T sl c x,s4 T sl c y with
   | some ti,some (.sl r n),some (.i _ b)=>match i7 T.types ti.elem,nth m r with
     | some te,some (.oarr e n' cols)=>bif Nat.beq ti.kind 3 && Nat.beq te.size cols.length then
       some ⟨[n=n',0≤b,b≤n],.sl r b.toNat,[],[(r,.oarr e b.toNat cols)],[]⟩ else none
     | _,_=>none
   | _,_,_=>none
 | .buildSlice t (.succ (.succ .zero)) ps=>match i7 T.types t,a19 T sl c ps.toList with
   | some ti,some [(0,.sl q0 n0),(1,.sl q1 n1)]=>match i7 T.types ti.elem,nth m q0,nth m q1 with
     | some te,some (.oarr _ k0 [.int .i64 g0]),some (.oarr _ k1 [.int .i64 g1]) =>
      bif Nat.beq ti.kind 3 && Nat.beq te.kind 3 && Nat.beq te.size 1 && Nat.beq te.zero.length 1 && !(Nat.beq q0 q1) then
       some ⟨[n0=k0,n1=k1],.sl m.length 2,[],[(q0,.arr k0 [.int .i64 g0]),(q1,.arr k1 [.int .i64 g1])],[.oarr ti.elem 2 [.rows (s9 n0 n1 n1) [s9 g0 g1 g1]]]⟩ else none
     | _,_,_=>none
   | _,_=>none
 | .buildSlice t (.succ (.succ (.succ .zero))) ps=>match i7 T.types t,a19 T sl c ps.toList with
   | some ti,some [(0,.sl q0 n0),(1,.sl q1 n1),(2,.sl q2 n2)]=>match i7 T.types ti.elem,nth m q0,nth m q1,nth m q2 with
     | some te,some (.oarr _ k0 [.int .i64 g0]),some (.oarr _ k1 [.int .i64 g1]),some (.oarr _ k2 [.int .i64 g2]) =>
      bif Nat.beq ti.kind 3 && Nat.beq te.kind 3 && Nat.beq te.size 1 && Nat.beq te.zero.length 1 && !(Nat.beq q0 q1) && !(Nat.beq q0 q2) && !(Nat.beq q1 q2) then
       some ⟨[n0=k0,n1=k1,n2=k2],.sl m.length 3,[],[(q0,.arr k0 [.int .i64 g0]),(q1,.arr k1 [.int .i64 g1]),(q2,.arr k2 [.int .i64 g2])],[.oarr ti.elem 3 [.rows (s9 n0 n1 n2) [s9 g0 g1 g2]]]⟩ else none
     | _,_,_,_=>none
   | some ti,some [(0,.agg [.i .i64 N0,.sl q0 n0]),(1,.agg [.i .i64 N1,.sl q1 n1]),(2,.agg [.i .i64 N2,.sl q2 n2])]=>match i7 T.types ti.elem,nth m q0,nth m q1,nth m q2 with
     | some te,some (.oarr _ k0 [.int .i64 g0,.int .i64 h0]),some (.oarr _ k1 [.int .i64 g1,.int .i64 h1]),some (.oarr _ k2 [.int .i64 g2,.int .i64 h2]) =>
      bif Nat.beq ti.kind 3 && Nat.beq te.size 2 && Nat.beq te.zero.length 2 && !(Nat.beq q0 q1) && !(Nat.beq q0 q2) && !(Nat.beq q1 q2) then
       some ⟨[n0=k0,n1=k1,n2=k2],.sl m.length 3,[],[(q0,.arr k0 [.int .i64 g0,.int .i64 h0]),(q1,.arr k1 [.int .i64 g1,.int .i64 h1]),(q2,.arr k2 [.int .i64 g2,.int .i64 h2])],[.oarr ti.elem 3 [.int .i64 (s9 N0 N1 N2),.rows (s9 n0 n1 n2) [s9 g0 g1 g2,s9 h0 h1 h2]]]⟩ else none
     | _,_,_,_=>none
   | _,_=>none
 | .range t x=>match s4 T sl c x with
   | some (.mp r)=>bif a2z T t then match nth m r with
     | some (.mapp f)=>some ⟨[],.ptr m.length 0,[],[(r,.fmapp f)],[.iterp f none]⟩
     | some (.fmapp f)=>some ⟨[],.ptr m.length 0,[],[],[.iterp f none]⟩
     | _=>none
    else none
   | _=>none
 | .call cl=>match a4d T sl c cl.callee with
  | some (f,ys)=>match i7 T.callsB f,a37 T sl c cl.args.toList with
   | some F,some vs=>F m (vs ++ ys)
   | _,_=>none
  | none=>match cl.callee,cl.args.toList,cl.argTypes.toList with
   | .builtin .append,[x,y],[t,t']=>match i7 T.types t,s4 T sl c x,s4 T sl c y with
     | some ti,some (.sl r n),some (.sl q k)=>match i7 T.types ti.elem,nth m r,nth m q with
      | some te,some (.oarr e n' cols),some kq=>match a6j kq with
       | some (k',cols')=>bif Nat.beq t t' && Nat.beq ti.kind 3 && Nat.beq e ti.elem && Nat.beq cols.length te.size && Nat.beq cols'.length te.size && Nat.beq te.zero.length te.size && Nat.blt 0 te.size && a3a cols' then
         some ⟨[n=n',k=k',(n + k) * te.bytes≤140737488355328,n + k≤9223372036854775807],.sl r (n + k),[r],[(r,.oarr e (n + k) (a2m n cols cols'))],[]⟩ else none
       | none=>none
      | _,_,_=>none
     | some ti,some (.sl r n),some (.sub q sz lo k)=>match i7 T.types ti.elem,nth m r,nth m q with
      | some te,some (.oarr e n' cols),some kq=>match a6j kq with
       | some (k',cols')=>bif Nat.beq t t' && Nat.beq ti.kind 3 && Nat.beq e ti.elem && Nat.beq cols.length te.size && Nat.beq cols'.length te.size && Nat.beq te.zero.length te.size && Nat.blt 0 te.size && a3a cols' && Nat.beq sz te.size then
         some ⟨[n=n',lo + k≤k',(n + k) * te.bytes≤140737488355328,n + k≤9223372036854775807],.sl r (n + k),[r],[(r,.oarr e (n + k) (a2m n cols (a4e lo cols')))],[]⟩ else none
       | none=>none
      | _,_,_=>none
     | _,_,_=>none
   | .builtin .clear,[x],[t]=>match i7 T.types t,s4 T sl c x with
     | some ti,some (.sub r sz lo n)=>match i7 T.types ti.elem,nth m r with
      | some te,some (.oarr e n' [.int .i64 g])=>match te.ik with
       | some .i64=>bif Nat.beq ti.kind 3 && Nat.beq te.kind 0 && Nat.beq sz 1 then
         some ⟨[lo + n=n'],.tup [],[],[(r,.oarr e n' [.int .i64 (fun j=>bif Nat.blt j lo then g j else 0)])],[]⟩ else none
       | _=>none
      | _,_=>none
     | _,_=>none
   | _,_,_=>none
 | _=>none
def a4u (sl:List Slot) (ops:List Oper):Option (Nat × Bool)→Option (Option (List (Nat × Bool)))
 | none=>some (some [])
 | some (j,w)=>match nth ops j with
  | some o=>match o.dst with
   | some d=>match nth sl d with
    | some s=>match s.sv,w with
     | .tt,true=>some (some s.ch)
     | .ff,false=>some (some s.ch)
     | .tt,false=>some none
     | .ff,true=>some none
     | .b _,_=>some (some ((d,w) :: s.ch))
     | _,_=>none
    | none=>none
   | none=>none
  | none=>none
def b1m (sl:List Slot):List (Nat × Bool)→Prop→Prop
 | [],p=>p
 | (q,w) :: r,p=>match nth sl q with
  | some s=>match s.sv with
   | .b x=>x=w→b1m sl r p
   | _=>b1m sl r p
  | none=>b1m sl r p
def b3b (sl:List Slot) (c:List (Nat × Bool)):List (Nat × Bool)→Bool
 | []=>true
 | (q,_) :: r=>(match nth sl q with | some s=>b53 s.ch c | none=>false) && b3b sl c r
def a6g (sl:List Slot) (dst:Option Nat) (s:Slot):Option (List Slot):=
 match dst with
 | some d=>match nth sl d with
  | some _=>some (m4 sl d s)
  | none=>none
 | none=>some sl
def a8x (d:Nat):List (Nat × Bool)→Bool
 | []=>true
 | (q,_) :: r=>!(Nat.beq q d) && a8x d r
def a81 (dst:Option Nat) (c:List (Nat × Bool)):Bool:=
 match dst with
 | some d=>a8x d c
 | none=>true
def u9 (dst:Option Nat):List Slot→Bool
 | []=>true
 | s :: r=>(match dst with | some d=>a8x d s.ch | none=>true) && u9 dst r
def b0n (s:Slot):Slot:=
 match s.ch with
 | []=>s
 | _=>⟨[],.dead⟩
def clean:List Slot→List Slot
 | []=>[]
 | s :: r=>b0n s :: clean r
def a7h (sl:List Slot) (c:List (Nat × Bool)):List Prop→List Prop
 | []=>[]
 | p :: r=>b1m sl c p :: a7h sl c r
def app (m new:List MBlk):List MBlk:=
 match new with
 | []=>m
 | _=>m ++ new
theorem b33 (m new:List MBlk):app m new=m ++ new:=by
 unfold app
 split
 ·simp
 ·rfl
def b6v (T:Tab) (dst:Option Nat) (v:SV):SV:=
 match dst with
 | some d=>bif a0b d T.sure then(match v with | .b _=>.tt | v=>v) else v
 | none=>v
def c0q (T:Tab) (dst:Option Nat) (v:SV) (ps:List Prop):List Prop:=
 match dst with
 | some d=>bif a0b d T.sure then(match v with | .b x=>(x=true) :: ps | _=>ps) else ps
 | none=>ps
def opA (T:Tab) (ops:List Oper) (sl:List Slot) (m:List MBlk) (o:Oper):Option (List Prop × List Slot × List MBlk):=
 match a4u sl ops o.guard with
 | some (some c)=>bif b3b sl c c && u9 o.dst sl && a81 o.dst c then(match s7 T sl m c o.type o.op with
  | some a=>match a6g sl o.dst ⟨c,b6v T o.dst a.sv⟩ with
   | some sl'=>some (a7h sl c (c0q T o.dst a.sv a.pre),sl',app m a.new)
   | none=>none
  | none=>none) else none
 | some none=>bif u9 o.dst sl then(match a6g sl o.dst ⟨[],.dead⟩ with
  | some sl'=>some ([],sl',m)
  | none=>none) else none
 | none=>none
def settle (T:Tab) (sl:List Slot) (m:List MBlk) (op:Op):Option (List Prop × List (Nat × MBlk)):=
 match op with
 | .call cl=>match cl.callee,cl.args.toList with
  | .builtin .append,[_,y]=>match s4 T sl [] y with
   | some (.sl q _)=>match nth m q with
    | some (.orows e2 _ n (some 0) (some p) len _)=>match nth m p with
     | some (.oarr _ j cols)=>match b34 cols with
      | some gs=>bif Nat.beq n 1 then some ([len 0=j],[(p,.arr j cols),(q,.oarr e2 1 [.rows (fun _=>j) gs])]) else none
      | none=>none
     | _=>none
    | _=>none
   | _=>none
  | _,_=>none
 | _=>none
def b6t (T:Tab) (sl:List Slot) (m:List MBlk) (op:Op):Option BRes:=
 match settle T sl m op with
 | some (ps,us)=>match a1q T sl (x7 m us) [] op with
  | some b=>some ⟨ps ++ b.pre,b.sv,b.kill,us ++ b.upd,b.new⟩
  | none=>none
 | none=>a1q T sl m [] op
def a3k (l:List Nat):List Nat→Bool
 | []=>true
 | r :: g=>!(a0b r l) && a3k l g
def opB (T:Tab) (ops:List Oper) (sl:List Slot) (m:List MBlk) (o:Oper):Option (List Prop × List Slot × List MBlk × List Nat):=
 match a4u sl ops o.guard with
 | some (some [])=>bif u9 o.dst sl then(match b6t T sl m o.op with
  | some b=>bif a3k b.kill (a1p T) then(match a6g (a25 b.kill sl) o.dst ⟨[],b.sv⟩ with
   | some sl'=>some (b.pre,sl',app (x7 (a0u b.kill m) b.upd) b.new,b.upd.map (·.1))
   | none=>none) else none
  | none=>none) else none
 | _=>none
def b0f (T:Tab) (ops:List Oper):List Oper→St→Option (List Prop × St)
 | [],s=>some ([],⟨clean s.slots,s.mem,s.dirty⟩)
 | o :: rest,s=>match opA T ops s.slots s.mem o with
  | some (ps,sl,m)=>match b0f T ops rest ⟨sl,m,s.dirty⟩ with
   | some (qs,s')=>some (ps ++ qs,s')
   | none=>none
  | none=>match opB T ops s.slots s.mem o with
   | some (ps,sl,m,d)=>match b0f T ops rest ⟨sl,m,d ++ s.dirty⟩ with
    | some (qs,s')=>some (ps ++ qs,s')
    | none=>none
   | none=>none
def a08 (sl:List Slot) (ops:List Oper) (o:Oper):List Nat:=
 o.op.operands.toList.filterMap (fun | .tmp t=>some t | _=>none) ++
 (match o.guard with
  | some (g,_)=>match nth ops g with
   | some og=>og.dst.toList
   | none=>[]
  | none=>[]) ++
 (match a4u sl ops o.guard with
  | some (some c)=>c.map (·.1)
  | _=>[])
def b1b (T:Tab) (ops:List Oper):List Oper→List Slot→List MBlk→List Prop × List Slot × List MBlk × List (List Nat) × List Oper
 | [],sl,m=>([],sl,m,[],[])
 | o :: rest,sl,m=>match opA T ops sl m o with
  | some (ps,sl',m')=>match b1b T ops rest sl' m' with
   | (qs,sl2,m2,ls,r)=>(ps ++ qs,sl2,m2,a08 sl ops o :: ls,r)
  | none=>([],sl,m,[],o :: rest)
def c2r (T:Tab) (ops:List Oper):List Oper→St→Option (List Prop × St)
 | [],s=>some ([],s)
 | o :: rest,s=>match opA T ops s.slots s.mem o with
  | some (ps,sl,m)=>match c2r T ops rest ⟨sl,m,s.dirty⟩ with
   | some (qs,s')=>some (ps ++ qs,s')
   | none=>none
  | none=>match opB T ops s.slots s.mem o with
   | some (ps,sl,m,d)=>match c2r T ops rest ⟨sl,m,d ++ s.dirty⟩ with
    | some (qs,s')=>some (ps ++ qs,s')
    | none=>none
   | none=>none
def a8f (acc:List Nat):List Edge→Nat
 | []=>0
 | e :: r=>bif Region.binds .any e then(1 <<< e.on) ||| (match nth acc e.on with | some x=>x | none=>0) ||| a8f acc r else a8f acc r
def w6:List Oper→List Nat→List Nat
 | [],acc=>acc
 | o :: r,acc=>w6 r (acc ++ [a8f acc o.after.toList])
def a9o (i:Nat):List Edge→Bool
 | []=>true
 | e :: r=>(!(Region.binds .any e) || Nat.blt e.on i) && a9o i r
def a0d:Nat→List Oper→Bool
 | _,[]=>true
 | i,o :: r=>a9o i o.after.toList && a0d (i + 1) r
def b46 (i ai t:Nat):Nat→List Oper→List Nat→Bool
 | j,o :: r,aj :: ar=>(bif Nat.beq j i then true else match o.dst with
   | some d=>bif Nat.beq d t then(bif Nat.blt j i then Nat.testBit ai j else Nat.testBit aj i) else true
   | none=>true) && b46 i ai t (j + 1) r ar
 | _,_,_=>true
def a9w (i ai:Nat) (ops:List Oper) (an:List Nat):List Nat→Bool
 | []=>true
 | t :: r=>b46 i ai t 0 ops an && a9w i ai ops an r
def a0i (ops:List Oper) (an:List Nat):Nat→List (List Nat)→List Nat→Bool
 | i,l :: ls,ai :: ar=>a9w i ai ops an l && a0i ops an (i + 1) ls ar
 | _,[],_=>true
 | _,_,[]=>false
def c38 (d:Nat):List Oper→Bool
 | []=>false
 | o :: r=>(match o.dst with | some e=>Nat.beq e d | none=>false) || c38 d r
def a5r:List Oper→Bool
 | []=>true
 | o :: r=>(match o.dst with | some d=>!(c38 d r) | none=>true) && a5r r
def a4q:Nat→List Nat→Bool
 | _,[]=>true
 | b,a :: r=>Nat.beq (a &&& (1 <<< b - 1)) (1 <<< b - 1) && a4q (b + 1) r
def a0q:List Slot→Bool
 | []=>true
 | s :: r=>s.ch.isEmpty && a0q r
def b7f (T:Tab) (ops:List Oper) (s:St):Option (List Prop × St):=
 match b1b T ops ops s.slots s.mem with
 | (ps,sl,m,ls,r) =>
  let an:=w6 ops []
  bif a0q s.slots && a0d 0 ops && a5r ops && a0i ops an 0 ls an && a4q ls.length (a1g ls.length an) then(match c2r T ops r ⟨sl,m,s.dirty⟩ with
   | some (qs,s')=>some (ps ++ qs,⟨clean s'.slots,s'.mem,s'.dirty⟩)
   | none=>none) else none
def b8o (T:Tab) (sl:List Slot) (m:List MBlk) (o:Oper):Option (List (Nat × Nat × SV)):=
 match o.guard with
 | some _=>none
 | none=>match o.op with
  | .move _=>some []
  | .indexAddr _ _ _=>some []
  | .fieldAddr _ _ _=>some []
  | .load t x=>match i7 T.types t,s4 T sl [] x with
   | some ti,some (.ptr r off)=>match nth m r with
    | some (.cells cs)=>match nth cs off with
     | some (.i k n)=>bif Nat.beq ti.kind 1 || Nat.beq ti.kind 2 then none else some [(r,off,.i k n)]
     | some (.sl q n)=>bif Nat.beq ti.kind 1 || Nat.beq ti.kind 2 then none else some [(r,off,.sl q n),(q,0,.dead)]
     | _=>none
    | some (.old _)=>some []
    | _=>none
   | some ti,some (.pix q _ _ _)=>match nth m q with
    | some (.arr _ _)=>bif Nat.beq ti.kind 3 || (Nat.beq ti.kind 1 && Nat.beq ti.size 2) then none else some []
    | _=>none
   | _,_=>none
  | .call cl=>match cl.callee,cl.args.toList with
   | .builtin .len,[x]=>match s4 T sl [] x with
    | some (.sl _ _)=>some []
    | _=>none
   | _,_=>none
  | .slice t x none (some y) none=>bif a0b 1000001 T.sure then none else(match i7 T.types t,s4 T sl [] x,s4 T sl [] y with
   | some _,some (.sl r _),some (.i _ _)=>match nth m r with
    | some (.arr _ _)=>some []
    | _=>none
   | _,_,_=>none)
  | _=>none
def c6f (T:Tab) (ops:List Oper):List Oper→List Slot→List MBlk→List (List (Nat × Nat × SV))
 | [],_,_=>[]
 | o :: rest,sl,m=>match b8o T sl m o,opA T ops sl m o with
  | some h,some (_,sl',m')=>h :: c6f T ops rest sl' m'
  | _,_=>[]
def b63:List (List (Nat × Nat × SV))→List (Nat × Nat × SV)
 | []=>[]
 | h :: r=>h ++ b63 r
def a1h (n:Nat):Nat→Array Bool
 | 0=>Array.replicate n false
 | i + 1=>(a1h n i).setIfInBounds i true
def b5b (ops:Array Oper):Nat→Bool
 | 0=>true
 | i + 1=>Region.free .any ops (a1h ops.size i) i && (Region.ready .any ops (a1h ops.size i)).contains i && b5b ops i
def a5a (k L:Nat):Nat→List Nat→Bool
 | _,[]=>true
 | b,a :: r=>Nat.beq ((a ||| (1 <<< k - 1) ||| L) &&& (1 <<< b - 1)) (1 <<< b - 1) && a5a k L (b + 1) r
def b0v (o:Oper):Bool:=match o.guard with
 | some _=>false
 | none=>match o.op with
  | .move _=>true
  | .extract _ _=>true
  | _=>false
def b42 (n:Nat):Nat→List Oper→Nat
 | _,[]=>0
 | i,o :: r=>(bif b0v o && Nat.blt i n then 1 <<< i else 0) ||| b42 n (i + 1) r
def b0j (size L:Nat):Nat→Array Bool
 | 0=>Array.replicate size false
 | i + 1=>bif Nat.testBit L i then b0j size L i else(b0j size L i).setIfInBounds i true
def a7o (ops:Array Oper) (L0:Nat) (lst:Array Bool):Nat→Nat
 | 0=>0
 | j + 1=>(bif Nat.testBit L0 j && Region.free .any ops lst j then 1 <<< j else 0) ||| a7o ops L0 lst j
def d09:Nat→List Nat→Nat
 | m,[]=>m
 | m,a :: r=>d09 (m &&& a) r
def b7t (ops:Array Oper) (n:Nat):Nat:=
 let L0:=b42 n 0 ops.toList &&& ((1 <<< n - 1) ^^^ d09 (1 <<< n - 1) (a1g n (w6 ops.toList [])))
 a7o ops L0 (b0j ops.size L0 n) n
def b4e (rs:List (Nat × Nat × SV)) (d:List Nat):Bool:=
 match rs with
 | []=>true
 | h :: r=>!(a0b h.1 d) && b4e r d
def b5v (T:Tab) (ops:List Oper) (rs:List (Nat × Nat × SV)):List Oper→St→Option (List Prop × St)
 | [],s=>some ([],s)
 | o :: rest,s=>match opA T ops s.slots s.mem o with
  | some (ps,sl,m)=>match b5v T ops rs rest ⟨sl,m,s.dirty⟩ with
   | some (qs,s')=>some (ps ++ qs,s')
   | none=>none
  | none=>match opB T ops s.slots s.mem o with
   | some (ps,sl,m,d)=>bif b4e rs d then(match b5v T ops rs rest ⟨sl,m,d ++ s.dirty⟩ with
    | some (qs,s')=>some (ps ++ qs,s')
    | none=>none) else none
   | none=>none
def Tab.pinned (T:Tab) (f:Nat→Option Addr × Nat) (rs:List (Nat × Nat × SV)):Tab:=⟨T.types,T.globals,T.calls,T.loops,T.callsB,rs.map (fun h=>(h.1,f h.1)) ++ T.pins,T.takes,T.sure,T.inl,T.back,T.rmode⟩
def a9n (T:Tab) (ops:Array Oper) (s:St):Option (List Prop × St):=
 match b1b T ops.toList ops.toList s.slots s.mem with
 | (ps,sl,m,ls,r) =>
  let an:=w6 ops.toList []
  let tk:=c6f T ops.toList ops.toList s.slots s.mem
  let rs:=b63 tk
  bif a0q s.slots && a0d 0 ops.toList && a5r ops.toList && a0i ops.toList an 0 ls an && a5a tk.length (b7t ops ls.length) ls.length (a1g ls.length an) && Nat.ble tk.length ls.length && Region.noSelect ops && b5b ops tk.length then
   (match b5v (T.pinned (fun _=>(none,0)) rs) ops.toList rs r ⟨sl,m,s.dirty⟩ with
   | some (qs,s')=>some (ps ++ qs,⟨clean s'.slots,s'.mem,s'.dirty⟩)
   | none=>none) else none
def a5f (T:Tab) (ops:Array Oper) (s:St):Option (List Prop × St):=
 match b7f T ops.toList s with
 | some x=>some x
 | none=>a9n T ops s
def a1k (l:List Nat) (i:Nat):Nat:=match nth l i with
 | some x=>x
 | none=>i
def c20 (pi:List Nat) (ex:List (Nat × Nat)) (i:Nat) (o:Oper):Oper:={ o with after:=((o.after.toList.map (fun e:Edge=>({ on:=a1k pi e.on,ground:=e.ground }:Edge))) ++ ((ex.filter (fun p:Nat × Nat=>Nat.beq p.2 i)).map (fun p:Nat × Nat=>({ on:=a1k pi p.1,ground:=.data }:Edge)))).toArray }
def a28 (ops:List Oper) (inv pi:List Nat) (ex:List (Nat × Nat)):List Oper:=inv.map (fun i=>match nth ops i with
 | some o=>c20 pi ex i o
 | none=>default)
def c3n (n:Nat) (inv pi:List Nat):Nat→Bool
 | 0=>true
 | i + 1=>Nat.blt (a1k pi i) n && Nat.beq (a1k inv (a1k pi i)) i && Nat.blt (a1k inv i) n && Nat.beq (a1k pi (a1k inv i)) i && c3n n inv pi i
def b2i:List Oper→Bool
 | []=>true
 | o :: r=>(match o.guard with | none=>true | some _=>false) && b2i r
def d0o (n:Nat):List (Nat × Nat)→Bool
 | []=>true
 | p :: r=>Nat.blt p.1 n && Nat.blt p.2 n && d0o n r
def b15 (ops:List Oper) (inv pi:List Nat) (ex:List (Nat × Nat)):Bool:=Nat.beq inv.length ops.length && Nat.beq pi.length ops.length && c3n ops.length inv pi ops.length && b2i ops && d0o ops.length ex
def b02 (q t n:Nat):List Nat:=(List.range n).map (fun j=>bif Nat.blt j t then j else bif Nat.beq j t then q else bif Nat.ble j q then j - 1 else j)
def b80 (q t n:Nat):List Nat:=(List.range n).map (fun i=>bif Nat.blt i t then i else bif Nat.blt i q then i + 1 else bif Nat.beq i q then t else i)
def a83 (T:Tab) (ops:Array Oper) (s:St):Option ((List Prop × St) × (List Prop × St) × (List Prop × St)):=
 match b1b T ops.toList ops.toList s.slots s.mem with
 | (_,_,_,ls,_)=>splitAt3 T ops s ls.length (ls.length + 2) ops.toList.length
where splitAt3 (T:Tab) (ops:Array Oper) (s:St) (b q n:Nat):Option ((List Prop × St) × (List Prop × St) × (List Prop × St)):=
 bif b15 ops.toList (b02 q b n) (b80 q b n) [(q,b)] && b15 ops.toList (b02 q (b + 1) n) (b80 q (b + 1) n) [(b,q),(q,b + 1)] && b15 ops.toList (b02 q q n) (b80 q q n) [(b,q),(b + 1,q)] && !(Nat.beq q b) && !(Nat.beq q (b + 1)) then
  match a5f T (a28 ops.toList (b02 q b n) (b80 q b n) [(q,b)]).toArray s,a5f T (a28 ops.toList (b02 q (b + 1) n) (b80 q (b + 1) n) [(b,q),(q,b + 1)]).toArray s,a5f T (a28 ops.toList (b02 q q n) (b80 q q n) [(b,q),(b + 1,q)]).toArray s with
  | some x,some y,some z=>some (x,y,z)
  | _,_,_=>none
 else none
def a7b:List Prop→Prop→Prop
 | [],p=>p
 | q :: r,p=>q∧a7b r p
inductive DT where
 | leaf (inv:List Nat)
 | node (x i:Nat) (l r:DT)
def c9t:Nat→List Nat→List Nat
 | 0,_=>[]
 | _,[]=>[]
 | n + 1,x :: r=>x :: c9t n r
def d5c:Nat→List Nat→Option (DT × List Nat)
 | 0,_=>none
 | f + 1,k :: r=>match k with
  | 0=>(match r with
   | n :: r=>some (.leaf (c9t n r),a1g n r)
   | []=>none)
  | _=>(match r with
   | x :: i :: r=>(match d5c f r with
    | some (a,r1)=>(match d5c f r1 with
     | some (b,r2)=>some (.node x i a b,r2)
     | none=>none)
    | none=>none)
   | _=>none)
 | _,[]=>none
def d3y:List Gh→List Nat
 | .mv n :: r=>n :: d3y r
 | _=>[]
def d74 (T:Tab) (id:Nat):Option DT:=match i7 T.takes (1000000 + id) with
 | some f=>(match d5c 64 (d3y (f [] [])) with
  | some (t,_)=>some t
  | none=>none)
 | none=>none
def posN (x:Nat):List Nat→Nat
 | []=>0
 | y :: r=>bif Nat.beq x y then 0 else posN x r + 1
def c3g (inv:List Nat):List Nat:=(List.range inv.length).map (fun i=>posN i inv)
def b5c (T:Tab) (ops:Array Oper) (s:St) (K:St→Prop):DT→List (Nat × Nat)→Prop
 | .leaf inv,ex=>bif b15 ops.toList inv (c3g inv) ex then(match a5f T (a28 ops.toList inv (c3g inv) ex).toArray s with
  | some x=>a7b x.1 (K x.2)
  | none=>False) else False
 | .node x i l r,ex=>bif Nat.beq x i || !(Nat.blt x ops.toList.length) || !(Nat.blt i ops.toList.length) then False else b5c T ops s K l (ex ++ [(x,i)])∧b5c T ops s K r (ex ++ [(i,x)])
def a0x:Code→List Nat
 | .region _ ops _=>ops.toList.filterMap (·.dst)
 | .seq a b=>a0x a ++ a0x b
 | .cond _ a b=>a0x a ++ a0x b
 | .block _ c=>a0x c
 | .loop c=>a0x c
 | .scope c=>a0x c
 | _=>[]
def refine(sl:List Slot) (x:Operand) (v:SV):List Slot:=
 match x with
 | .tmp t=>m4 sl t ⟨[],v⟩
 | _=>sl
mutual
def veq:SV→SV→Prop
 | .dead,_=>True
 | .tt,y=>match bOf y with | some b=>b=true | none=>False
 | .ff,y=>match bOf y with | some b=>b=false | none=>False
 | .b x,y=>match bOf y with | some b=>b=x | none=>False
 | .i k n,.i k' n'=>bif kEq k k' then n'=n else False
 | .nilsl,.nilsl=>True
 | .nilptr,.nilptr=>True
 | .nilmap,.nilmap=>True
 | .ptr r o,.ptr r' o'=>bif Nat.beq r r' && Nat.beq o o' then True else False
 | .pix r sz ix o,.pix r' sz' ix' o'=>bif Nat.beq r r' && Nat.beq sz sz' && Nat.beq o o' then ix'=ix else False
 | .sl r n,.sl r' n'=>bif Nat.beq r r' then n'=n else False
 | .sub r sz lo n,.sub r' sz' lo' n'=>bif Nat.beq r r' && Nat.beq sz sz' then lo'=lo∧n'=n else False
 | .mp r,.mp r'=>bif Nat.beq r r' then True else False
 | .agg xs,.agg ys=>a7e xs ys
 | .tup xs,.tup ys=>a7e xs ys
 | .fn f xs,.fn g ys=>bif Nat.beq f g then a7e xs ys else False
 | .yld r,.yld r'=>bif Nat.beq r r' then True else False
 | .v x,.v y=>y=x
 | _,_=>False
def a7e:List SV→List SV→Prop
 | [],[]=>True
 | [x],[y]=>veq x y
 | x :: xs,y :: ys=>veq x y∧a7e xs ys
 | _,_=>False
end
def a6y (n:Nat) (len:Nat→Nat):List (Nat→Nat→Int)→List (Nat→Nat→Int)→Prop
 | [],[]=>True
 | g :: r,g' :: r'=>(∀ j,j < n→∀ i,i < len j→g' j i=g j i)∧a6y n len r r'
 | _,_=>False
def a9j (n:Nat):Col→Col→Prop
 | .any,_=>True
 | .int _ _,.any=>n=0
 | .bool _,.any=>n=0
 | .rows _ _,.any=>n=0
 | .rows len gs,.rows len' gs'=>(∀ j,j < n→len' j=len j)∧a6y n len gs gs'
 | .int k g,.int k' g'=>bif kEq k k' then(∀ j,j < n→g' j=g j) else False
 | .bool g,.bool g'=>∀ j,j < n→g' j=g j
 | _,_=>False
def a1r (n:Nat):List Col→List Col→Prop
 | [],[]=>True
 | x :: xs,y :: ys=>a9j n x y∧a1r n xs ys
 | _,_=>False
def hEq:Option Nat→Option Nat→Bool
 | none,none=>true
 | some a,some b=>Nat.beq a b
 | _,_=>false
def d5i:Option Nat→Option Nat→Bool
 | none,_=>true
 | some a,some b=>Nat.beq a b
 | _,_=>false
def meq:MBlk→MBlk→Prop
 | .gone,_=>True
 | .cells xs,.cells ys=>a7e xs ys
 | .old xs,.old ys=>a7e xs ys
 | .stk xs us,.stk ys vs=>a7e xs ys∧us=vs
 | .lup st us cd,.lup st' us' cd'=>bif c7k st st' then us=us'∧cd=cd' else False
 | .arr n c,.arr n' c'=>n'=n∧a1r n c c'
 | .oarr e n c,.oarr e' n' c'=>bif Nat.beq e e' then n'=n∧a1r n c c' else False
 | .mapi k k' f,.mapi q q' f'=>bif kEq k q && oEq k' q' then ∀ x,f' x=f x else False
 | .mapp f,.mapp f'=>∀ x y,f' x y=f x y
 | .fmapp f,.fmapp f'=>∀ x y,f' x y=f x y
 | .iterp f c,.iterp f' c'=>(∀ x y,f' x y=f x y)∧(match c with | none=>True | some p=>c'=some p)
 | .orows e q n h k len gs,.orows e' q' n' h' k' len' gs'=>bif Nat.beq e e' && Nat.beq q q' && hEq h h' && d5i k k' then n'=n∧(∀ j,j < n→len' j=len j)∧a6y n len gs gs' else False
 | _,_=>False
def b0g (sl:List Slot):List (Nat × SV)→Prop
 | []=>True
 | (d,x) :: r=>(match nth sl d with | some s=>(match s.ch with | []=>veq x s.sv | _=>(match x with | .dead=>True | _=>False)) | none=>False)∧b0g sl r
def b9g (m:List MBlk):List (Nat × MBlk)→Prop
 | []=>True
 | (d,x) :: r=>(match nth m d with | some k=>meq x k | none=>False)∧b9g m r
def a0z (ps:List (Nat × SV)) (ws kill:List Nat):Nat→List Slot→List Slot
 | _,[]=>[]
 | d,s :: r=>(match i7 ps d with
  | some v=>⟨[],v⟩
  | none=>bif a0b d ws then⟨[],.dead⟩ else(match s.ch with
   | []=>⟨[],a4m kill s.sv⟩
   | _=>⟨[],.dead⟩)) :: a0z ps ws kill (d + 1) r
def a13 (ps:List (Nat × MBlk)) (kill:List Nat):Nat→List MBlk→List MBlk
 | _,[]=>[]
 | d,k :: r=>(match i7 ps d with
  | some v=>v
  | none=>n7 kill k) :: a13 ps kill (d + 1) r
def head (L:LAnn) (ws:List Nat) (s:St) (x:L.X):St:=
 ⟨a0z (L.slots x) ws L.kill 0 s.slots,a13 (L.mem x) L.kill 0 s.mem,[]⟩
def a4a:Option MBlk→Option MBlk
 | some (.arr n c)=>some (.arr n c)
 | some (.oarr _ 0 c)=>some (.arr 0 c)
 | _=>none
def b2n (gs:List Nat) (e r off:Nat) (s:St):St:=match nth s.mem r with
 | some (.cells cs)=>match nth cs off with
  | some (.sl q n)=>match a4a (nth s.mem q) with
   | some k=>bif Nat.blt e s.mem.length && gs.all (fun g=>!Nat.beq g e) && !(Nat.beq e r) then⟨a0z [] [] [e] 0 s.slots,a13 [(e,k),(r,.cells (m4 (s5 [e] cs) off (.sl e n)))] [e] 0 s.mem,s.dirty⟩ else s
   | none=>s
  | _=>s
 | _=>s
def b2o (gs:List Nat) (e r off:Nat) (s:St):St:=match nth s.mem r with
 | some (.cells cs)=>match nth cs off with
  | some (.sl q n)=>match nth s.mem q with
   | some (.oarr e0 n0 c0)=>bif Nat.blt e s.mem.length && gs.all (fun g=>!Nat.beq g e) && !(Nat.beq e r) && !(Nat.beq q e) then⟨a0z [] [] [e,q] 0 s.slots,a13 [(e,.oarr e0 n0 c0),(r,.cells (m4 (s5 [e,q] cs) off (.sl e n))),(q,.gone)] [e,q] 0 s.mem,s.dirty⟩ else s
   | _=>s
  | _=>s
 | _=>s
def b2p (gs:List Nat) (e d:Nat) (s:St):St:=match nth s.slots d with
 | some ⟨[],.sl q n⟩=>match nth s.mem q with
  | some (.oarr e0 n0 c0)=>bif Nat.blt e s.mem.length && gs.all (fun g=>!Nat.beq g e) && !(Nat.beq q e) then⟨a0z [(d,.sl e n)] [] [e,q] 0 s.slots,a13 [(e,.oarr e0 n0 c0),(q,.gone)] [e,q] 0 s.mem,s.dirty⟩ else s
  | _=>s
 | _=>s
def b8a (gs:List Nat) (p:Nat × Nat) (s:St):St:=bif Nat.ble 3000000 p.2 then b2p gs p.1 (p.2 - 3000000) s else bif Nat.ble 2000000 p.2 then b2o gs p.1 ((p.2 - 2000000) / 100) ((p.2 - 2000000) % 100) s else bif Nat.ble 1000000 p.2 then b2n gs p.1 ((p.2 - 1000000) / 100) ((p.2 - 1000000) % 100) s else match nth s.slots p.2 with
 | some ⟨[],.sl r n⟩=>match a4a (nth s.mem r) with
  | some k=>bif Nat.blt p.1 s.mem.length && gs.all (fun g=>!Nat.beq g p.1) then⟨a0z [(p.2,.sl p.1 n)] [] [p.1] 0 s.slots,a13 [(p.1,k)] [p.1] 0 s.mem,s.dirty⟩ else s
  | none=>s
 | _=>s
def a4p (gs:List Nat):List (Nat × Nat)→St→St
 | [],s=>s
 | p :: r,s=>a4p gs r (b8a gs p s)
def a2g:List Slot→List Slot→Prop
 | [],[]=>True
 | [],_ :: _=>False
 | h :: hs,s :: ss=>(match h.sv with
  | .dead=>a2g hs ss
  | x=>(match s.ch with
   | []=>veq x s.sv∧a2g hs ss
   | _=>False))
 | _ :: _,[]=>False
def a5v:List MBlk→List MBlk→Prop
 | [],_=>True
 | h :: hs,s :: ss=>(match h with
  | .gone=>a5v hs ss
  | x=>meq x s∧a5v hs ss)
 | _ :: _,[]=>False
mutual
def SV.ltB:SV→Nat→Bool
 | .ptr r _,n=>Nat.blt r n
 | .pix r _ _ _,n=>Nat.blt r n
 | .sl r _,n=>Nat.blt r n
 | .sub r _ _ _,n=>Nat.blt r n
 | .mp r,n=>Nat.blt r n
 | .agg xs,n=>ltL xs n
 | .tup xs,n=>ltL xs n
 | .fn _ xs,n=>ltL xs n
 | .yld r,n=>Nat.blt r n
 | _,_=>true
def ltL:List SV→Nat→Bool
 | [],_=>true
 | x :: r,n=>SV.ltB x n && ltL r n
end
def b2q (n:Nat):List Slot→Bool
 | []=>true
 | s :: r=>s.sv.ltB n && b2q n r
def a15 (n:Nat):List MBlk→Bool
 | []=>true
 | .cells cs :: r=>ltL cs n && a15 n r
 | .old cs :: r=>ltL cs n && a15 n r
 | .stk cs _ :: r=>ltL cs n && a15 n r
 | .orows _ _ _ _ (some q) _ _ :: r=>Nat.blt q n && a15 n r
 | _ :: r=>a15 n r
def b3v (h:St):Bool:=b2q h.mem.length h.slots && a15 h.mem.length h.mem
def b81 (T:Tab) (s:St):List Oper→Option ((Int→Int→Bool) × Nat × Nat × List Oper)
 | o :: rest=>match o.op,o.guard,o.dst with
  | .next x false,none,some d=>match s4 T s.slots [] x with
   | some (.ptr r 0)=>match nth s.mem r,nth s.slots d with
    | some (.iterp left _),some _=>bif u9 (some d) s.slots then some (left,d,r,rest) else none
    | _,_=>none
   | _=>none
  | _,_,_=>none
 | []=>none
def b6h (T:Tab) (s:St):List Oper→Option (Nat × Nat × List Oper)
 | o :: rest=>bif a0b 1000002 T.sure then(match o.op,o.guard,o.dst with
  | .binOp .eql t x y _,none,some d=>match s4 T s.slots [] x,s4 T s.slots [] y,i7 T.types t with
   | some (.sl _ n),some .nilsl,some ti=>match nth s.slots d with
    | some _=>bif Nat.beq ti.kind 3 && u9 (some d) s.slots then some (n,d,rest) else none
    | none=>none
   | _,_,_=>none
  | _,_,_=>none) else none
 | []=>none
def a30 (T:Tab) (ops rest:List Oper) (s:St) (K:Ex→St→Prop):Prop:=
 match b0f T ops rest s with
 | some (ps,s')=>a7b ps (K .normal s')
 | none=>False
def c79 (m:List MBlk):Gh→Option (List Prop × List MBlk)
 | .mv _=>some ([],m)
 | .take r ix=>match nth m r with
  | some (.orows e e' n none _ len gs)=>some ([ix < n],m4 m r (.orows e e' n (some ix) (some m.length) len gs) ++ [.oarr e' (len ix) (a1d gs ix)])
  | _=>none
 | .fresh r off e w=>match nth m r with
  | some (.cells cs)=>match nth cs off with
   | some .nilsl=>bif Nat.blt 0 w then some ([],m4 m r (.cells (m4 cs off (.sl m.length 0))) ++ [.oarr e 0 (a1b w .any)]) else none
   | _=>none
  | _=>none
 | .freeze r=>match nth m r with
  | some (.oarr _ n cols)=>some ([],m4 m r (.arr n cols))
  | _=>none
 | .cols r cs=>match nth m r with
  | some (.oarr e n cols)=>bif Nat.beq cs.length cols.length then some ([n=0],m4 m r (.oarr e 0 cs)) else none
  | _=>none
def c3d:List Gh→List MBlk→Option (List Prop × List MBlk)
 | [],m=>some ([],m)
 | g :: r,m=>match c79 m g with
  | some (ps,m')=>match c3d r m' with
   | some (qs,m2)=>some (ps ++ qs,m2)
   | none=>none
  | none=>none
mutual
def w9 (f:Nat→Nat):SV→SV
 | .ptr r o=>.ptr (f r) o
 | .pix r sz ix o=>.pix (f r) sz ix o
 | .sl r n=>.sl (f r) n
 | .sub r sz lo n=>.sub (f r) sz lo n
 | .mp r=>.mp (f r)
 | .yld r=>.yld (f r)
 | .agg xs=>.agg (a36 f xs)
 | .tup xs=>.tup (a36 f xs)
 | .fn g xs=>.fn g (a36 f xs)
 | x=>x
def a36 (f:Nat→Nat):List SV→List SV
 | []=>[]
 | x :: r=>w9 f x :: a36 f r
end
def mvF (r e i:Nat):Nat:=bif Nat.beq i r then e else i
def renO (f:Nat→Nat):Option Nat→Option Nat
 | some q=>some (f q)
 | none=>none
def b5r (f:Nat→Nat):MBlk→MBlk
 | .cells cs=>.cells (a36 f cs)
 | .old cs=>.old (a36 f cs)
 | .stk cs vs=>.stk (a36 f cs) vs
 | .orows e e' n h k len gs=>.orows e e' n h (renO f k) len gs
 | k=>k
def a61 (f:Nat→Nat):List MBlk→List MBlk
 | []=>[]
 | k :: r=>b5r f k :: a61 f r
def a58 (f:Nat→Nat):List Slot→List Slot
 | []=>[]
 | s :: r=>⟨s.ch,w9 f s.sv⟩ :: a58 f r
def c7s (gs:List Nat) (r:Nat) (s:St):Option St:=match nth s.mem r with
 | some k=>bif a0b r gs then none else some ⟨a58 (mvF r s.mem.length) s.slots,a61 (mvF r s.mem.length) (m4 s.mem r .gone) ++ [b5r (mvF r s.mem.length) k],s.dirty⟩
 | none=>none
def b9j (gs:List Nat):List Gh→St→Option St
 | [],s=>some s
 | .mv r :: l,s=>match c7s gs r s with
  | some s'=>b9j gs l s'
  | none=>none
 | _ :: l,s=>b9j gs l s
def b2s (T:Tab) (id:Nat) (s:St):Option (List Prop × St):=
 match i7 T.takes id with
 | none=>some ([],s)
 | some f=>match c3d (f s.slots s.mem) s.mem with
  | some (ps,m)=>match b9j (a1p T) (f s.slots s.mem) ⟨s.slots,m,s.dirty⟩ with
   | some s'=>some (ps,s')
   | none=>none
  | none=>none
def a7w (T:Tab) (sl:List Slot) (m:List MBlk):ResultVar→Option SV
 | .tmp a=>s4 T sl [] (.tmp a)
 | .cell a t=>match i7 T.types t,s4 T sl [] (.tmp a) with
  | some ti,some (.ptr r off)=>match nth m r with
   | some (.cells cs)=>loadAt ti cs off
   | _=>none
  | _,_=>none
def c8n (T:Tab) (sl:List Slot) (m:List MBlk) (rs:List ResultVar):Option SV:=
 match rs with
 | []=>some (.tup [])
 | [a]=>a7w T sl m a
 | [a,b]=>match a7w T sl m a,a7w T sl m b with
  | some x,some y=>some (.tup [x,y])
  | _,_=>none
 | [a,b,c]=>match a7w T sl m a,a7w T sl m b,a7w T sl m c with
  | some x,some y,some z=>some (.tup [x,y,z])
  | _,_,_=>none
 | _=>none
def c09 (T:Tab) (rs:List ResultVar) (R:SV→List MBlk→Prop):Ex→St→Prop
 | .exit _,_=>False
 | _,s=>match c8n T s.slots s.mem rs with
  | some v=>R v s.mem
  | none=>False
def b9y:Nat→List Slot
 | 0=>[]
 | n + 1=>⟨[],.dead⟩ :: b9y n
def a0p:List SV→Nat→List Slot
 | [],n=>b9y n
 | x :: r,n=>⟨[],x⟩ :: a0p r (n - 1)
def a8q:List Slot→List SV
 | []=>[]
 | s :: r=>(match s.ch with | []=>s.sv | _=>.dead) :: a8q r
def a17:List SV→List Slot
 | []=>[]
 | x :: r=>⟨[],x⟩ :: a17 r
inductive CallT where
 | fn (f:Nat)
 | yl (r:Nat)
def c3f (T:Tab) (sl:List Slot) (o:Oper):Option (CallT × List SV):=
 match o.op with
 | .call cl=>match a4d T sl [] cl.callee,a37 T sl [] cl.args.toList with
  | some (f,ys),some vs=>match i7 T.inl f with
   | some _=>some (.fn f,vs ++ ys)
   | none=>none
  | none,some vs=>match cl.callee with
   | .value x=>match s4 T sl [] x with
    | some (.yld r)=>some (.yl r,vs)
    | _=>none
   | _=>none
  | _,_=>none
 | _=>none
def Tab.into (T:Tab) (J:Inl) (b:Nat):Tab:=⟨T.types,T.globals,T.calls,J.loops,T.callsB,(b,(none,0)) :: T.pins,J.takes,J.sure,T.inl,T.back,false⟩
def Tab.intoR (T:Tab) (J:Inl) (b:Nat) (x:Option Addr × Nat) (us:List Value) (cd:LupCd) (ps:Array Tmp) (assign body:Code):Tab:=⟨T.types,T.globals,T.calls,J.loops,T.callsB,(b,(none,0)) :: (b + 1,x) :: T.pins,J.takes,J.sure,T.inl,some ⟨b + 1,b,us,cd,ps,assign,body,T.loops,T.takes,T.sure⟩,false⟩
def Tab.rnd (T:Tab) (k:Back) (b:Nat):Tab:=⟨T.types,T.globals,T.calls,k.loops,T.callsB,(b,(none,0)) :: T.pins,k.takes,k.sure,T.inl,none,true⟩
def a7i (q:Nat) (w:Bool):List (Nat × Bool)→List (Nat × Bool)
 | []=>[]
 | (p,v) :: r=>bif Nat.beq p q then a7i q w r else(p,v) :: a7i q w r
def know (q:Nat) (w:Bool):Nat→List Slot→List Slot
 | _,[]=>[]
 | d,s :: r=>(bif b7o (q,!w) s.ch then⟨[],.dead⟩ else⟨a7i q w s.ch,bif Nat.beq d q then(bif w then .tt else .ff) else s.sv⟩) :: know q w (d + 1) r
def c2u:List (Nat × Bool)→List Slot→(Bool→List Slot→Prop)→Prop
 | [],sl,K=>K true sl
 | (q,w) :: r,sl,K=>c2u r sl (fun ok sl=>match ok with
  | false=>K false sl
  | true=>match nth sl q with
   | some ⟨[],.b x⟩=>(x=w→K true (know q w 0 sl))∧(x=(!w)→K false (know q (!w) 0 sl))
   | _=>False)
def a8e (T:Tab) (I:CallT→Nat→List SV→List MBlk→(SV→List MBlk→Prop)→Prop) (ops:List Oper):List Oper→St→(St→Prop)→Prop
 | [],s,K=>K ⟨clean s.slots,s.mem,s.dirty⟩
 | o :: rest,s,K=>match b6h T s [o] with
  | some (n,d,_)=>(n=0→a8e T I ops rest ⟨m4 s.slots d ⟨[],.tt⟩,s.mem,s.dirty⟩ K)∧a8e T I ops rest ⟨m4 s.slots d ⟨[],.ff⟩,s.mem,s.dirty⟩ K
  | none=>match opA T ops s.slots s.mem o with
   | some (ps,sl,m)=>a7b ps (a8e T I ops rest ⟨sl,m,s.dirty⟩ K)
   | none=>match opB T ops s.slots s.mem o with
    | some (ps,sl,m,d)=>a7b ps (a8e T I ops rest ⟨sl,m,d ++ s.dirty⟩ K)
    | none=>match a4u s.slots ops o.guard with
     | some (some c)=>bif b3b s.slots c c then c2u c s.slots (fun ok sl=>match ok with
      | false=>(match a6g sl o.dst ⟨[],.dead⟩ with
       | some sl'=>bif u9 o.dst sl then a8e T I ops rest ⟨sl',s.mem,s.dirty⟩ K else False
       | none=>False)
      | true=>match c3f T sl o with
       | some (f,vs)=>∀ us:List Value,I f s.mem.length vs (s.mem ++ [.stk (a8q sl) us]) (fun sv m'=>match nth m' s.mem.length with
        | some (.stk cs us')=>us'=us∧(match a6g (a17 cs) o.dst ⟨[],sv⟩ with
         | some sl'=>a8e T I ops rest ⟨sl',m4 m' s.mem.length .gone,s.dirty⟩ K
         | none=>False)
        | _=>False)
       | none=>False) else False
     | _=>False
def c37 (T:Tab) (I:CallT→Nat→List SV→List MBlk→(SV→List MBlk→Prop)→Prop) (ops:List Oper) (s:St) (K:St→Prop):Prop:=
 match b1b T ops ops s.slots s.mem with
 | (ps,sl,m,ls,r) =>
  let an:=w6 ops []
  bif a0q s.slots && a0d 0 ops && a5r ops && a0i ops an 0 ls an && a4q ls.length (a1g ls.length an) then a7b ps (a8e T I ops r ⟨sl,m,s.dirty⟩ K) else False
def b1v:List Tmp→List SV→List SV→Option (List SV)
 | [],[],cs=>some cs
 | p :: ps,v :: vs,cs=>b1v ps vs (m4 cs p v)
 | _,_,_=>none
def a73:List Oper→Bool
 | []=>true
 | o :: r=>(match o.op with | .defer _=>false | _=>true) && a73 r
def c4s:Ex→LSt
 | .normal=>.ready
 | .ret=>.done .ret
 | .exit id=>.done (.exit id)
def jcV:Ex→SV
 | .normal=>.tt
 | _=>.ff
def jcK:LSt→Option Ex
 | .ready=>some .normal
 | .done .ret=>some .ret
 | .done (.exit id)=>some (.exit id)
 | .busy=>none
def vc:Tab→Nat→Nat→Code→St→(Ex→St→Prop)→Prop
 | _,0,_,_,_,_=>False
 | T,n + 1,bid,c,s,K=>match c with
  | .skip=>K .normal s
  | .label _=>K .normal s
  | .ret=>K .ret s
  | .exit id=>K (.exit id) s
  | .region id ops draw=>bif T.rmode then(match b2s T id s with
   | some (tps,s)=>a7b tps (bif a73 ops.toList then(bif draw then c37 T (fun _ _ _ _ _=>False) ops.toList s (fun s'=>K .normal s') else a8e T (fun _ _ _ _ _=>False) ops.toList ops.toList s (fun s'=>K .normal s')) else False)
   | none=>False) else match b2s T id s with
   | some (tps,s)=>a7b tps (match b81 T s ops.toList with
    | some (left,d,r,rest)=>bif draw then False else
        ((∀ a b,left a b=false)→a30 T ops.toList rest ⟨m4 s.slots d ⟨[],.tup [.ff]⟩,s.mem,s.dirty⟩ K) ∧
        (∀ a b,left a b=true→a30 T ops.toList rest ⟨m4 s.slots d ⟨[],.tup [.tt,.agg [.i .i64 a,.i .i64 b],.tt]⟩,m4 s.mem r (.iterp (fun x y=>left x y && !(x == a && y == b)) (some (a,b))),s.dirty⟩ K)
    | none=>match b6h T s ops.toList with
     | some (n,d,rest)=>bif draw then False else
        (n=0→a30 T ops.toList rest ⟨m4 s.slots d ⟨[],.tt⟩,s.mem,s.dirty⟩ K)∧a30 T ops.toList rest ⟨m4 s.slots d ⟨[],.ff⟩,s.mem,s.dirty⟩ K
     | none=>match(bif draw then a5f T ops s else bif a0b 1000002 T.sure then none else b0f T ops.toList ops.toList s) with
      | some (ps,s')=>a7b ps (K .normal s')
      | none=>bif draw then(match d74 T id with
       | some t=>b5c T ops s (fun s'=>K .normal s') t []
       | none=>match a83 T ops s with
        | some (x,y,z)=>a7b x.1 (K .normal x.2)∧a7b y.1 (K .normal y.2)∧a7b z.1 (K .normal z.2)
        | none=>c37 T (fun ct b vs m R=>match ct with
         | .fn f=>(match i7 T.inl f with
          | some J=>match J.fn.body with
           | some c=>vc (T.into J b) n 0 c ⟨a0p vs J.fn.ntmps,m,[]⟩ (c09 (T.into J b) J.fn.results.toList R)
           | none=>False
          | none=>False)
         | .yl r=>(match T.back with
          | some k=>(match nth m r,nth m k.s with
           | some (.lup .ready us cd),some (.stk cs us')=>bif Nat.beq r k.r then us=k.us∧cd=k.cd∧us'=k.us∧(match b1v k.ps.toList vs cs with
            | some cs'=>vc (T.rnd k b) n 0 k.assign ⟨a17 cs',m,[]⟩ (fun e s1=>match e with
             | .normal=>(match nth s1.mem r with
              | some (.lup .ready us cd)=>us=k.us∧cd=k.cd∧vc (T.rnd k b) n 0 k.body ⟨s1.slots,m4 s1.mem r (.lup .busy us cd),[]⟩ (fun e s2=>match nth s2.mem r with
               | some (.lup .busy us cd)=>us=k.us∧cd=k.cd∧R (jcV e) (m4 s2.mem r (.lup (c4s e) us cd))
               | _=>False)
              | _=>False)
             | _=>False)
            | none=>False) else False
           | _,_=>False)
          | none=>False)) ops.toList s (fun s'=>K .normal s')) else
        a8e T (fun ct b vs m R=>match ct with
         | .fn f=>(match i7 T.inl f with
          | some J=>match J.fn.body with
           | some c=>vc (T.into J b) n 0 c ⟨a0p vs J.fn.ntmps,m,[]⟩ (c09 (T.into J b) J.fn.results.toList R)
           | none=>False
          | none=>False)
         | .yl r=>(match T.back with
          | some k=>(match nth m r,nth m k.s with
           | some (.lup .ready us cd),some (.stk cs us')=>bif Nat.beq r k.r then us=k.us∧cd=k.cd∧us'=k.us∧(match b1v k.ps.toList vs cs with
            | some cs'=>vc (T.rnd k b) n 0 k.assign ⟨a17 cs',m,[]⟩ (fun e s1=>match e with
             | .normal=>(match nth s1.mem r with
              | some (.lup .ready us cd)=>us=k.us∧cd=k.cd∧vc (T.rnd k b) n 0 k.body ⟨s1.slots,m4 s1.mem r (.lup .busy us cd),[]⟩ (fun e s2=>match nth s2.mem r with
               | some (.lup .busy us cd)=>us=k.us∧cd=k.cd∧R (jcV e) (m4 s2.mem r (.lup (c4s e) us cd))
               | _=>False)
              | _=>False)
             | _=>False)
            | none=>False) else False
           | _,_=>False)
          | none=>False)) ops.toList ops.toList s (fun s'=>K .normal s'))
   | none=>False
  | .seq a b=>vc T n bid a s (fun e s'=>match e with
   | .normal=>vc T n bid b s' K
   | e=>K e s')
  | .cond x a b=>match s4 T s.slots [] x with
   | some .tt=>vc T n bid a s K
   | some .ff=>vc T n bid b s K
   | some (.b t)=>(t=true→vc T n bid a ⟨refine s.slots x .tt,s.mem,s.dirty⟩ K)∧(t=false→vc T n bid b ⟨refine s.slots x .ff,s.mem,s.dirty⟩ K)
   | _=>False
  | .block id body=>vc T n id body s (fun e s'=>match e with
   | .exit id'=>bif Nat.beq id' id then K .normal s' else K (.exit id') s'
   | e=>K e s')
  | .scope body=>bif T.rmode then False else vc T n bid body s K
  | .rangeFunc g ps assign body=>match T.rmode,T.back,s4 T s.slots [] g with
   | false,none,some (.fn f ys)=>(match i7 T.inl f with
    | some J=>match J.fn.body with
      | some c=>∀(us:List Value) (cd:LupCd) (x:Option Addr × Nat),vc (T.intoR J s.mem.length x us cd ps assign body) n 0 c ⟨a0p (.yld (s.mem.length + 1) :: ys) J.fn.ntmps,s.mem ++ [.stk (a8q s.slots) us,.lup .ready us cd],[]⟩
        (c09 (T.intoR J s.mem.length x us cd ps assign body) J.fn.results.toList (fun _ m'=>match nth m' s.mem.length,nth m' (s.mem.length + 1) with
         | some (.stk cs us'),some (.lup st us2 cd2)=>us'=us∧us2=us∧cd2=cd∧(match jcK st with
          | some e=>K e ⟨a17 cs,m4 (m4 m' s.mem.length .gone) (s.mem.length + 1) .gone,s.dirty⟩
          | none=>False)
         | _,_=>False))
      | none=>False
    | none=>False)
   | _,_,_=>False
  | .loop body=>match i7 T.loops bid with
   | some (PL:PLoop)=>∃ y:PL.Y,(∃ x,(PL.ann y).inv x∧b0g (a4p (a1p T) (PL.ann y).ren s).slots ((PL.ann y).slots x)∧b9g (a4p (a1p T) (PL.ann y).ren s).mem ((PL.ann y).mem x)) ∧
      ∀ x,(PL.ann y).inv x→(bif b3v (head (PL.ann y) (a0x body) (a4p (a1p T) (PL.ann y).ren s) x) then vc T n bid body (head (PL.ann y) (a0x body) (a4p (a1p T) (PL.ann y).ren s) x) (fun e s'=>match e with
        | .normal=>∃ x',(PL.ann y).inv x'∧(PL.ann y).mu x' < (PL.ann y).mu x∧a2g (head (PL.ann y) (a0x body) (a4p (a1p T) (PL.ann y).ren s) x').slots (a4p (a1p T) (PL.ann y).ren s').slots∧a5v (head (PL.ann y) (a0x body) (a4p (a1p T) (PL.ann y).ren s) x').mem (a4p (a1p T) (PL.ann y).ren s').mem
        | .ret=>K .ret s'
        | .exit id=>K (.exit id) s') else False)
   | none=>False
  | _=>False
@[irreducible] def p7 (T:Tab) (fn:Func) (args:List SV) (m:List MBlk) (R:SV→List MBlk→Prop):Prop:=
 match T.rmode,fn.body with
 | false,some c=>vc T 1000 0 c ⟨a0p args fn.ntmps,m,[]⟩ (c09 T fn.results.toList R)
 | _,_=>False
end
end Go.Proofs.YtaeeaniofljmnaaGreatDoor.Sx
