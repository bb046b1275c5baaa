/-
  A part of the proof (Yx1).
-/
import Derived.WalkKit
import Derived.OrdersHeld
namespace Go.Proofs.YtaeeaniofljmnaaGreatDoor.Sx
set_option linter.unusedSimpArgs false
set_option linter.unusedVariables false
open Go Go.RowKit
abbrev z0a:=@Option.some.injEq
abbrev z0b:=@Nat.eq_of_beq_eq_true
abbrev z0c:=@List.getElem?_eq_some_iff
abbrev z0d:=@Bool.and_eq_true
abbrev z0e:=@of_decide_eq_true
abbrev z0f:=@cond_true
abbrev z0g:=@Prod.mk.injEq
abbrev z0h:=@Option.map_eq_some_iff
abbrev z0i:=@List.getElem?_eq_getElem
abbrev z0j:=@Array.getElem?_eq_some_iff
abbrev z0k:=@List.cons_ne_nil
abbrev z0l:=@of_decide_eq_false
abbrev z0m:=@cond_false
abbrev z0n:=@List.mem_append
abbrev z0o:=@Result.andThen_ok
abbrev z0p:=@implies_true
abbrev z0q:=@Nat.le_refl
abbrev z0r:=@List.mem_singleton
abbrev z0s:=@List.mem_cons
abbrev z0t:=@List.getElem?_append_left
abbrev z0u:=@Nat.blt_eq
abbrev z0v:=@forall_const
abbrev z0w:=@List.mem_cons_of_mem
abbrev z0x:=@Bool.not_eq_true'
abbrev z0y:=@Value.slice.injEq
abbrev z0z:=@Bool.eq_false_iff
abbrev z1a:=@Sem.run_bind
abbrev z1b:=@List.length_append
abbrev z1c:=@List.getElem?_append_right
abbrev z1d:=@Nat.zero_add
abbrev z1f:=@List.append_nil
abbrev z1g:=@List.length_cons
abbrev z1h:=@List.mem_cons_self
abbrev z1i:=@Nat.add_zero
abbrev z1j:=@Bool.true_and
abbrev z1k:=@Nat.lt_irrefl
abbrev z1l:=@Nat.not_lt_zero
abbrev z1m:=@decide_eq_false_iff_not
abbrev z1n:=@List.getElem?_drop
abbrev z1o:=@Bool.or_eq_false_iff
abbrev z1p:=@decide_eq_true_eq
abbrev z1q:=@Nat.le_of_ble_eq_true
abbrev z1r:=@Bool.or_eq_true
abbrev z1s:=@Int.toNat_of_nonneg
abbrev z1t:=@List.getElem?_cons_succ
abbrev z1u:=@List.getElem?_take
abbrev z1v:=@Option.ne_none_iff_exists'
abbrev z1w:=@Nat.mul_le_mul_right
abbrev z1x:=@Bool.and_true
abbrev z1y:=@List.append_assoc
abbrev z1z:=@Nat.le_of_not_lt
abbrev z2a:=@Addr.mk.injEq
abbrev z2b:=@List.map_cons
abbrev z2c:=@Nat.lt_of_lt_of_le
abbrev z2d:=@MapKept.run_getObj_map
abbrev z2e:=@World.cell?_of_block
abbrev z2g:=@Nat.beq_refl
abbrev z2h:=@List.mem_map
abbrev z2i:=@List.length_singleton
abbrev z2j:=@Nat.zero_le
abbrev z2k:=@List.all_eq_true
abbrev z2l:=@Option.map_some
abbrev z2m:=@Array.getElem?_eq_getElem
abbrev z2n:=@MapKept.run_checkKey
abbrev z2o:=@List.mem_of_getElem?
abbrev z2p:=@MapKept.run_keyThatStays
abbrev z2q:=@List.mem_range
abbrev z2r:=@List.getElem_mem
abbrev z2s:=@Bool.false_eq_true
abbrev z2t:=@List.eq_nil_iff_forall_not_mem
abbrev z2u:=@Nat.ne_of_beq_eq_false
abbrev z2v:=@Nat.add_assoc
abbrev z2w:=@List.take_append_drop
abbrev z2x:=@Nat.mul_le_mul
abbrev z2y:=@Bool.not_false
abbrev z2z:=@Int.eq_ofNat_of_zero_le
abbrev z3a:=@List.length_nil
abbrev z3b:=@Option.bind_eq_some_iff
abbrev z3c:=@List.getElem?_cons_zero
abbrev z3e:=@Option.pure_def
abbrev z3f:=@Nat.succ_mul
abbrev z3g:=@Sem.run_pure
abbrev z3h:=@Array.toList_map
abbrev z3i:=@Bool.eq_iff_iff
abbrev z3j:=@List.cons.injEq
abbrev z3k:=@Array.getElem?_toList
abbrev z3l:=@Option.map_none
abbrev z3m:=@List.mem_iff_getElem?
abbrev z3n:=@List.take_length
abbrev z3o:=@List.getElem?_map
abbrev z3p:=@World.ownsRow_lit
abbrev z3q:=@List.nodup_cons
abbrev z3r:=@Option.bind_eq_bind
abbrev z3s:=@Nat.zero_lt_one
abbrev z3u:=@List.length_drop
noncomputable section
inductive SV where
 | tt | ff | nilsl | nilptr | nilmap | dead
 | b (x:Bool)
 | i (k:IntKind) (n:Int)
 | ptr (r off:Nat)
 | pix (r sz ix off:Nat)
 | sl (r n:Nat)
 | sub (r sz lo n:Nat)
 | mp (r:Nat)
 | agg (xs:List SV)
 | tup (xs:List SV)
 | fn (f:Nat) (xs:List SV)
 | yld (r:Nat)
 | v (x:Value)
inductive JC where
 | ret
 | exit (id:Nat)
inductive LSt where
 | ready
 | busy
 | done (j:JC)
structure LupCd where
 ps:Array Tmp
 assign:Code
 body:Code
def LSt.st:LSt→LoopState
 | .ready=>.ready
 | .busy=>.busy
 | .done _=>.done
def JC.code:JC→Code
 | .ret=>.ret
 | .exit id=>.exit id
def LSt.pe:LSt→Option Code
 | .done j=>some j.code
 | _=>none
def c6a:LSt→LSt→Bool
 | .ready,.ready=>true
 | .busy,.busy=>true
 | .done .ret,.done .ret=>true
 | .done (.exit a),.done (.exit b)=>Nat.beq a b
 | _,_=>false
def a3c (st:LSt) (us:List Value) (cd:LupCd) (fn D:Nat):Loop:={ state:=st.st,pending:=st.pe,fn:=fn,tmps:=us.toArray,params:=cd.ps,assign:=cd.assign,body:=cd.body,defers:=D }
inductive Col where
 | int (k:IntKind) (g:Nat→Int)
 | bool (g:Nat→Bool)
 | rows (len:Nat→Nat) (gs:List (Nat→Nat→Int))
 | any
inductive MBlk where
 | cells (cs:List SV)
 | old (cs:List SV)
 | arr (n:Nat) (cols:List Col)
 | oarr (e n:Nat) (cols:List Col)
 | mapi (k:IntKind) (k':Option IntKind) (f:Int→Option Int)
 | mapp (f:Int→Int→Bool)
 | fmapp (f:Int→Int→Bool)
 | iterp (left:Int→Int→Bool) (cur:Option (Int × Int))
 | orows (e e' n:Nat) (hole link:Option Nat) (len:Nat→Nat) (gs:List (Nat→Nat→Int))
 | stk (cs:List SV) (vs:List Value)
 | lup (st:LSt) (us:List Value) (cd:LupCd)
 | gone
structure Slot where
 ch:List (Nat × Bool)
 sv:SV
structure St where
 slots:List Slot
 mem:List MBlk
 dirty:List Nat
inductive Ex where
 | normal | ret | exit (id:Nat)
structure TI where
 kind:Nat
 size:Nat
 bytes:Nat
 zero:List SV
 offs:List (Nat × Nat)
 elem:Nat
 len:Nat
 ik:Option IntKind
 eqk:Option (List (Option IntKind))
 fagg:List Bool:=[]
structure LAnn where
 X:Type
 inv:X→Prop
 slots:X→List (Nat × SV)
 mem:X→List (Nat × MBlk)
 mu:X→Nat
 kill:List Nat:=[]
 ren:List (Nat × Nat):=[]
structure PLoop where
 Y:Type
 ann:Y→LAnn
def PLoop.of (L:LAnn):PLoop:=⟨Unit,fun _=>L⟩
structure AR where
 pre:List Prop
 sv:SV
 new:List MBlk
structure BRes where
 pre:List Prop
 sv:SV
 kill:List Nat
 upd:List (Nat × MBlk)
 new:List MBlk:=[]
inductive Gh where
 | mv (r:Nat)
 | take (r ix:Nat)
 | fresh (r off e w:Nat)
 | freeze (r:Nat)
 | cols (r:Nat) (cs:List Col)
 | give (r:Nat)
 | frz (r:Nat)
 | freshR (r off e e':Nat)
structure Inl where
 fn:Func
 loops:List (Nat × PLoop):=[]
 takes:List (Nat × (List Slot→List MBlk→List Gh)):=[]
 sure:List Nat:=[]
structure Back where
 r:Nat
 s:Nat
 us:List Value
 cd:LupCd
 ps:Array Tmp
 assign:Code
 body:Code
 loops:List (Nat × PLoop)
 takes:List (Nat × (List Slot→List MBlk→List Gh))
 sure:List Nat
structure Tab where
 types:List (Nat × TI)
 globals:List (Nat × Nat)
 calls:List (Nat × (List MBlk→List SV→Option AR))
 loops:List (Nat × PLoop)
 callsB:List (Nat × (List MBlk→List SV→Option BRes)):=[]
 pins:List (Nat × (Option Addr × Nat)):=[]
 takes:List (Nat × (List Slot→List MBlk→List Gh)):=[]
 sure:List Nat:=[]
 inl:List (Nat × Inl):=[]
 back:Option Back:=none
 rmode:Bool:=false
def a80:List (Nat × (Option Addr × Nat))→List Nat
 | []=>[]
 | p :: r=>p.1 :: a80 r
def a76:List (Nat × Nat)→List (Nat × (Option Addr × Nat))→List Nat
 | [],ps=>a80 ps
 | g :: r,ps=>g.2 :: a76 r ps
def a0z (T:Tab):List Nat:=a76 T.globals T.pins
universe u
section basics
variable {α:Type u}
def g7:List (Nat × α)→Nat→Option α
 | [],_=>none
 | (k,x) :: r,n=>bif Nat.beq k n then some x else g7 r n
def nth:List α→Nat→Option α
 | [],_=>none
 | x :: _,0=>some x
 | _ :: r,n + 1=>nth r n
def i4:List α→Nat→α→List α
 | [],_,_=>[]
 | _ :: r,0,y=>y :: r
 | x :: r,n + 1,y=>x :: i4 r n y
def b47:Nat→List α→Option (List α)
 | 0,_=>some []
 | n + 1,x :: r=>(b47 n r).map (x :: ·)
 | _ + 1,[]=>none
def a12:Nat→List α→List α
 | 0,l=>l
 | n + 1,_ :: r=>a12 n r
 | _ + 1,[]=>[]
def a45:List α→Nat→List α→Option (List α)
 | cs,0,[]=>some cs
 | _ :: r,0,v :: vs=>(a45 r 0 vs).map (v :: ·)
 | x :: r,n + 1,vs=>(a45 r n vs).map (x :: ·)
 | [],0,_ :: _=>none
 | [],_ + 1,_=>none
end basics
def y4:Nat→List Nat→Bool
 | _,[]=>false
 | n,x :: r=>Nat.beq n x || y4 n r
def kEq:IntKind→IntKind→Bool
 | .i8,.i8=>true
 | .i16,.i16=>true
 | .i32,.i32=>true
 | .i64,.i64=>true
 | .u8,.u8=>true
 | .u16,.u16=>true
 | .u32,.u32=>true
 | .u64,.u64=>true
 | _,_=>false
def ofV:Value→SV
 | .bool true=>.tt
 | .bool false=>.ff
 | .int k n=>.i k n
 | .slice none 0 0=>.nilsl
 | .pointer none=>.nilptr
 | .map none=>.nilmap
 | x=>.v x
def bOf:SV→Option Bool
 | .tt=>some true
 | .ff=>some false
 | .b x=>some x
 | _=>none
def b53:Col→Nat→SV
 | .int k g,j=>.i k (g j)
 | .bool g,j=>.b (g j)
 | .rows _ _,_=>.dead
 | .any,_=>.dead
def b2q:List Col→Nat→List SV
 | [],_=>[]
 | c :: r,j=>b53 c j :: b2q r j
def b6l (x:Nat × Bool):List (Nat × Bool)→Bool
 | []=>false
 | y :: r=>(Nat.beq x.1 y.1 && (x.2 == y.2)) || b6l x r
def b43:List (Nat × Bool)→List (Nat × Bool)→Bool
 | [],_=>true
 | x :: r,c=>b6l x c && b43 r c
def b59 (T:Tab) (sl:List Slot):Operand→Option Slot
 | .tmp t=>nth sl t
 | .const x=>some ⟨[],ofV x⟩
 | .global g=>match g7 T.globals g with
  | some r=>some ⟨[],.ptr r 0⟩
  | none=>none
 | .func f=>some ⟨[],.fn f []⟩
def q7 (T:Tab) (sl:List Slot) (c:List (Nat × Bool)) (x:Operand):Option SV:=
 match b59 T sl x with
 | some s=>bif b43 s.ch c then some s.sv else none
 | none=>none
def a2l (T:Tab) (sl:List Slot) (c:List (Nat × Bool)):List Operand→Option (List SV)
 | []=>some []
 | x :: r=>match q7 T sl c x,a2l T sl c r with
  | some v,some vs=>some (v :: vs)
  | _,_=>none
def a0u (T:Tab) (sl:List Slot) (c:List (Nat × Bool)):List (Nat × Operand)→Option (List (Nat × SV))
 | []=>some []
 | (k,x) :: r=>match q7 T sl c x,a0u T sl c r with
  | some v,some vs=>some ((k,v) :: vs)
  | _,_=>none
def a7o:SV→Bool
 | .tt | .ff | .nilsl | .nilptr | .nilmap | .b _ | .i _ _ | .ptr _ _ | .pix _ _ _ _ | .sl _ _ | .sub _ _ _ _ | .mp _ | .fn _ _ | .yld _=>true
 | _=>false
def cellsOf:SV→Option (List SV)
 | .agg xs=>some xs
 | x=>bif a7o x then some [x] else none
def a86:List SV→Bool
 | []=>true
 | x :: r=>a7o x && a86 r
def c04 (op:BinOp) (k:IntKind) (x y:Int):Option (List Prop × SV):=
 match op with
 | .add=>some ([],.i k (k.wrap (x + y)))
 | .sub=>some ([],.i k (k.wrap (x - y)))
 | .mul=>some ([],.i k (k.wrap (x * y)))
 | .quo=>some ([y≠0],.i k (k.wrap (x.tdiv y)))
 | .rem=>some ([y≠0],.i k (x.tmod y))
 | .and=>some ([],.i k (bits .and k x y))
 | .or=>some ([],.i k (bits .or k x y))
 | .xor=>some ([],.i k (bits .xor k x y))
 | .andNot=>some ([],.i k (bits .andNot k x y))
 | .eql=>some ([],.b (x == y))
 | .neq=>some ([],.b (x != y))
 | .lss=>some ([],.b (decide (x < y)))
 | .leq=>some ([],.b (decide (x≤y)))
 | .gtr=>some ([],.b (decide (x > y)))
 | .geq=>some ([],.b (decide (x ≥ y)))
 | _=>none
def a9x:Option IntKind→SV→SV→Option Bool
 | some k,.i k' a,.i k'' b=>bif kEq k k' && kEq k k'' then some (a == b) else none
 | none,x,y=>match bOf x,bOf y with
  | some a,some b=>some (a == b)
  | _,_=>none
 | _,_,_=>none
def a1b:List (Option IntKind)→List SV→List SV→Option Bool
 | [],[],[]=>some true
 | [k],[x],[y]=>a9x k x y
 | k :: ks,x :: xs,y :: ys=>match a9x k x y,a1b ks xs ys with
  | some p,some q=>some (p && q)
  | _,_=>none
 | _,_,_=>none
def c6f (c:Bool) (x y:SV):Option SV:=
 match x,y with
 | .i k a,.i k' b=>bif kEq k k' then some (.i k (bif c then a else b)) else none
 | .tt,y=>match bOf y with
  | some b=>some (.b (c || b))
  | none=>none
 | x,.ff=>match bOf x with
  | some a=>some (.b (c && a))
  | none=>none
 | x,y=>match bOf x,bOf y with
  | some a,some b=>some (.b (bif c then a else b))
  | _,_=>none
def loadAt (ti:TI) (cs:List SV) (off:Nat):Option SV:=
 bif (Nat.beq ti.kind 1 || Nat.beq ti.kind 2) then(b47 ti.size (a12 off cs)).map .agg else nth cs off
def a0i (offs:Nat→Option (Nat × Nat)):List SV→List (Nat × SV)→Option (List SV)
 | cs,[]=>some cs
 | cs,(k,v) :: r=>match offs k,cellsOf v with
  | some o,some vs=>bif Nat.beq vs.length o.2 then(match a45 cs o.1 vs with
   | some cs'=>a0i offs cs' r
   | none=>none) else none
  | _,_=>none
def e8:List Int→Nat→Int
 | [],_=>0
 | [x],_=>x
 | x :: r,j=>bif Nat.beq j 0 then x else e8 r (j - 1)
def o7:List Bool→Nat→Bool
 | [],_=>false
 | [x],_=>x
 | x :: r,j=>bif Nat.beq j 0 then x else o7 r (j - 1)
def allI (k:IntKind):List SV→Option (List Int)
 | []=>some []
 | .i k' n :: r=>bif kEq k k' then(allI k r).map (n :: ·) else none
 | _=>none
def c5f:List SV→Option (List Bool)
 | []=>some []
 | x :: r=>match bOf x,c5f r with
  | some b,some l=>some (b :: l)
  | _,_=>none
def c22:List SV→Col
 | []=>.any
 | .i k n :: r=>match allI k (.i k n :: r) with
  | some l=>.int k (e8 l)
  | none=>.any
 | l=>match c5f l with
  | some l=>.bool (o7 l)
  | none=>.any
def a7p (cs:List SV) (sz:Nat):Nat→Nat→List SV
 | _,0=>[]
 | k,n + 1=>(match nth cs k with | some v=>v | none=>.dead) :: a7p cs sz (k + sz) n
def a32 (cs:List SV) (sz len:Nat):Nat→Nat→List Col
 | _,0=>[]
 | k,n + 1=>c22 (a7p cs sz k len) :: a32 cs sz len (k + 1) n
def b3r (z:List SV):Nat→List SV
 | 0=>[]
 | n + 1=>z ++ b3r z n
def a2f {α:Type}:Nat→α→List α
 | 0,_=>[]
 | n + 1,x=>x :: a2f n x
def bin (T:Tab) (t:Nat) (op:BinOp) (x y:SV):Option (List Prop × SV):=
 match x,y with
 | .i k a,.i k' b=>match op with
  | .shl=>some ([0≤b∧b≤(k.bits:Int)],.i k (k.wrap (a * 2 ^ b.toNat)))
  | .shr=>some ([0≤b∧b≤(k.bits:Int)],.i k (a / 2 ^ b.toNat))
  | op=>bif kEq k k' then c04 op k a b else none
 | .sl _ n,.nilsl=>match op,g7 T.types t with
  | .eql,some ti=>bif Nat.beq ti.kind 3 then some ([0 < n],.ff) else none
  | _,_=>none
 | .nilsl,.nilsl=>match op,g7 T.types t with
  | .eql,some ti=>bif Nat.beq ti.kind 3 then some ([],.tt) else none
  | _,_=>none
 | x,y=>match bOf x,bOf y,g7 T.types t with
  | some a,some b,some ti=>bif Nat.beq ti.kind 5 then(match op with
   | .eql=>some ([],.b (a == b))
   | .neq=>some ([],.b (!(a == b)))
   | _=>none) else none
  | _,_,_=>none
def a9g:Option SV→Option AR
 | some v=>some ⟨[],v,[]⟩
 | none=>none
def notB:SV→Option SV
 | .tt=>some .ff
 | .ff=>some .tt
 | .b x=>some (.b (!x))
 | _=>none
def a21 (T:Tab) (ts:List Nat):Bool:=
 match ts with
 | t :: _=>match g7 T.types t with
  | some ti=>Nat.beq ti.kind 3
  | none=>false
 | []=>false
def b88 (T:Tab) (ts:List Nat):Bool:=
 match ts with
 | t :: _=>match g7 T.types t with
  | some ti=>Nat.beq ti.kind 6
  | none=>false
 | []=>false
def c8h (s:ByteArray) (n:Int):Int:=match s[n.toNat]? with
 | some b=>(b.toNat:Int)
 | none=>0
noncomputable def b2h (f:Int→Option Int):Nat:=open Classical in if h:∃ l:List Int,l.Nodup∧∀ a,a∈l↔f a≠none then h.choose.length else 0
def c0m (T:Tab) (ts:List Nat):Bool:=
 match ts with
 | t :: _=>match g7 T.types t with
  | some ti=>Nat.beq ti.kind 4
  | none=>false
 | []=>false
noncomputable def b02 (T:Tab) (m:List MBlk) (b:Builtin) (ts:List Nat) (vs:List SV):Option AR:=
 match b,vs with
 | .len,[.mp r]=>match nth m r with
  | some (.mapi _ _ f)=>bif c0m T ts then some ⟨[],.i .i64 (b2h f),[]⟩ else none
  | _=>none
 | _,_=>none
def a1w (T:Tab) (b:Builtin) (ts:List Nat) (vs:List SV):Option AR:=
 match b,vs with
 | .len,[.sl _ n]=>bif a21 T ts then some ⟨[],.i .i64 n,[]⟩ else none
 | .len,[.sub _ _ _ n]=>bif a21 T ts then some ⟨[],.i .i64 n,[]⟩ else none
 | .len,[.nilsl]=>bif a21 T ts then some ⟨[],.i .i64 0,[]⟩ else none
 | .len,[.v (.string s)]=>bif b88 T ts then some ⟨[],.i .i64 s.size,[]⟩ else none
 | .max,[.i k x,.i k' y]=>bif kEq k k' then some ⟨[],.i k (if y > x then y else x),[]⟩ else none
 | .min,[.i k x,.i k' y]=>bif kEq k k' then some ⟨[],.i k (if y < x then y else x),[]⟩ else none
 | _,_=>none
def a01:List (Nat→Nat→Int)→Nat→List Col
 | [],_=>[]
 | g :: r,ix=>.int .i64 (g ix) :: a01 r ix
def b6w (ti:TI) (cols:List Col) (ix off base:Nat):Option (SV × List MBlk):=
 bif Nat.beq ti.kind 3 then(match nth cols off with
  | some (.rows len gs)=>some (.sl base (len ix),[.arr (len ix) (a01 gs ix)])
  | _=>none) else bif Nat.beq ti.kind 1 && Nat.beq ti.size 2 && Nat.beq off 0 then(match cols with
  | [.int .i64 g,.rows len gs]=>some (.agg [.i .i64 (g ix),.sl base (len ix)],[.arr (len ix) (a01 gs ix)])
  | _=>none) else none
def a98 (ti:TI) (n:Nat) (cols:List Col) (sz ix off base:Nat):Option AR:=
 bif Nat.beq sz cols.length then(match b6w ti cols ix off base with
  | some p=>some ⟨[ix < n],p.1,p.2⟩
  | none=>match loadAt ti (b2q cols ix) off with
   | some v=>some ⟨[ix < n],v,[]⟩
   | none=>none) else none
def a5o:MBlk→Option (Nat × List Col)
 | .arr n cols=>some (n,cols)
 | .oarr _ n cols=>some (n,cols)
 | _=>none
def c13:MBlk→Bool
 | .oarr _ _ _=>true
 | _=>false
def b7i (m:List MBlk) (te:TI) (v:SV) (lo hi:Option SV):Option AR:=
 match v with
 | .sl r n=>match nth m r with
  | some kq=>match a5o kq with
   | some (n',_)=>match lo,hi with
    | none,none=>some ⟨[n=n'],.sub r te.size 0 n,[]⟩
    | some (.i _ l),none=>some ⟨[n=n',0≤l,l≤n],.sub r te.size l.toNat (n - l.toNat),[]⟩
    | none,some (.i _ b)=>bif c13 kq then none else some ⟨[n=n',0≤b,b≤n],.sub r te.size 0 b.toNat,[]⟩
    | some (.i _ l),some (.i _ b)=>some ⟨[n=n',0≤l,l≤b,b≤n],.sub r te.size l.toNat (b.toNat - l.toNat),[]⟩
    | _,_=>none
   | none=>none
  | none=>none
 | _=>none
def a10:Option Int→Int
 | some v=>v
 | none=>0
def isS:Option Int→Bool
 | some _=>true
 | none=>false
def zz (a:Int):Nat:=match a with
 | .ofNat n=>2 * n
 | .negSucc n=>2 * n + 1
def pk (a b:Int):Int:=(((zz a + zz b) * (zz a + zz b) + zz a:Nat):Int)
def a34 (T:Tab) (t:Nat):Option (IntKind × Option IntKind):=
 match g7 T.types t with
 | some ti=>bif Nat.beq ti.kind 4 then(match g7 T.types ti.elem,g7 T.types ti.len with
  | some tk,some tv=>match tk.ik,tv.ik,tv.zero with
   | some k,some k',[.i q (.ofNat 0)]=>bif Nat.beq tk.kind 0 && Nat.beq tv.kind 0 && kEq q k' && !(kEq k .i8) then some (k,some k') else none
   | some k,none,[.ff]=>bif Nat.beq tk.kind 0 && Nat.beq tv.kind 5 && !(kEq k .i8) then some (k,none) else none
   | none,some k',[.i q (.ofNat 0)]=>match tk.eqk with
    | some [some .i64,some .i64]=>bif Nat.beq tk.kind 1 && Nat.beq tv.kind 0 && kEq q k' then some (.i8,some k') else none
    | _=>none
   | _,_,_=>none
  | _,_=>none) else none
 | none=>none
def oEq:Option IntKind→Option IntKind→Bool
 | some k,some k'=>kEq k k'
 | none,none=>true
 | _,_=>false
def svV:Option IntKind→Int→SV
 | some k,v=>.i k v
 | none,v=>.b (v != 0)
def b9x:Option IntKind→SV→Option Int
 | some k,.i q v=>bif kEq k q then some v else none
 | none,x=>match bOf x with
  | some b=>some (bif b then 1 else 0)
  | none=>none
 | _,_=>none
def a2c (T:Tab) (t:Nat):Bool:=
 match g7 T.types t with
 | some ti=>bif Nat.beq ti.kind 4 then(match g7 T.types ti.elem,g7 T.types ti.len with
  | some tk,some tv=>match tk.eqk,tv.zero with
   | some [some .i64,some .i64],[.ff]=>Nat.beq tk.kind 2 && Nat.beq tk.len 2 && Nat.beq tv.kind 5
   | _,_=>false
  | _,_=>false) else false
 | none=>false
def b76:SV→Option (Int × Int)
 | .agg [.i .i64 a,.i .i64 b]=>some (a,b)
 | _=>none
def a9h:MBlk→Option (Int→Int→Bool)
 | .mapp f=>some f
 | .fmapp f=>some f
 | _=>none
def a6a (T:Tab) (sl:List Slot) (c:List (Nat × Bool)):Option Operand→Option (Option SV)
 | none=>some none
 | some x=>match q7 T sl c x with
  | some v=>some (some v)
  | none=>none
def b26:SV→Col
 | .ff=>.bool (fun _=>false)
 | .i k n=>.int k (fun _=>n)
 | .nilsl=>.rows (fun _=>0) []
 | _=>.any
def a38:List SV→List Col
 | []=>[]
 | z :: r=>b26 z :: a38 r
def b6x (e:Nat) (te:TI) (n:Nat):MBlk:=
 match te.zero with
 | [.nilsl]=>bif Nat.blt 0 te.len then .orows e te.elem n none none (fun _=>0) (a2f te.len (fun _ _=>0)) else .oarr e n (a38 te.zero)
 | _=>.oarr e n (a38 te.zero)
def c5o (m:List MBlk) (r:Nat) (y:Operand):Option Nat:=
 match nth m r,y with
 | some (.cells _),.const (.int _ (.ofNat k))=>some k
 | some (.old _),.const (.int _ (.ofNat k))=>some k
 | _,_=>none
def a3m (T:Tab) (sl:List Slot) (c:List (Nat × Bool)):Callee→Option (Nat × List SV)
 | .value x=>match q7 T sl c x with
  | some (.fn f xs)=>some (f,xs)
  | _=>none
 | _=>none
def c24 (ti:TI) (xs:List SV) (k:Nat):Option SV:=
 match nth ti.offs k,nth ti.fagg k with
 | some o,some true=>(b47 o.2 (a12 o.1 xs)).map .agg
 | some o,some false=>bif Nat.beq o.2 1 then nth xs o.1 else none
 | _,_=>none
def d3s:List SV→Bool
 | []=>true
 | .sl _ _ :: _=>false
 | _ :: r=>d3s r
def b8f (T:Tab):Bool:=y4 1000000 T.sure
def b0i (T:Tab) (sl:List Slot) (m:List MBlk) (c:List (Nat × Bool)) (t len:Nat) (ps:Array (Nat × Operand)):Option AR:=
 bif b8f T then(match g7 T.types t,a0u T sl c ps.toList with
  | some ti,some [(0,.sl q n)]=>match g7 T.types ti.elem with
   | some te=>bif Nat.beq len 1 && Nat.beq ti.kind 3 && Nat.beq te.kind 3 && Nat.beq te.size 1 && Nat.beq te.zero.length 1 && Nat.blt q m.length then
     some ⟨[],.sl m.length 1,[.orows ti.elem te.elem 1 (some 0) (some q) (fun _=>n) [fun _ _=>0]]⟩ else none
   | none=>none
  | some ti,some [(0,.nilsl)]=>match g7 T.types ti.elem with
   | some te=>bif Nat.beq len 1 && Nat.beq ti.kind 3 && Nat.beq te.kind 3 && Nat.beq te.size 1 && Nat.beq te.zero.length 1 then
     some ⟨[],.sl m.length 1,[.orows ti.elem te.elem 1 none none (fun _=>0) [fun _ _=>0]]⟩ else none
   | none=>none
  | _,_=>none) else none
def a7g (T:Tab) (sl:List Slot) (m:List MBlk) (c:List (Nat × Bool)) (t:Nat) (x:Operand) (lo hi:Option Operand):Option AR:=
 bif y4 1000001 T.sure then(match g7 T.types t,q7 T sl c x,lo,a6a T sl c hi with
  | some ti,some (.sl r n),none,some (some (.i _ b))=>match g7 T.types ti.elem,nth m r with
   | some te,some (.arr n' cols)=>bif Nat.beq ti.kind 3 && Nat.beq te.size cols.length then some ⟨[n=n',0≤b,b≤n],.sl m.length b.toNat,[.arr b.toNat cols]⟩ else none
   | _,_=>none
  | _,_,_,_=>none) else none
def q8 (T:Tab) (sl:List Slot) (m:List MBlk) (c:List (Nat × Bool)) (oty:Nat) (op:Op):Option AR:=
 match op with
 | .move x=>a9g (q7 T sl c x)
 | .assign x=>match q7 T sl c x with
   | some .nilsl=>match g7 T.types oty with
    | some ti=>bif Nat.beq ti.kind 3 && Nat.ble 1 ti.len then some ⟨[],.sl m.length 0,[.oarr ti.elem 0 (a2f ti.len .any)]⟩ else some ⟨[],.nilsl,[]⟩
    | none=>some ⟨[],.nilsl,[]⟩
   | r=>a9g r
 | .pick (.tmp q) x y=>match q7 T sl c (.tmp q) with
   | some .tt=>a9g (q7 T sl c x)
   | some .ff=>a9g (q7 T sl c y)
   | some (.b cb)=>match q7 T sl ((q,true) :: c) x,q7 T sl ((q,false) :: c) y with
    | some vx,some vy=>a9g (c6f cb vx vy)
    | _,_=>none
   | _=>none
 | .alloc t=>match g7 T.types t with
   | some ti=>match ti.zero with
    | []=>none
    | z=>some ⟨[],.ptr m.length 0,[.cells z]⟩
   | none=>none
 | .box _ x=>match q7 T sl c x with
   | some v=>match cellsOf v with
    | some cs=>some ⟨[],.ptr m.length 0,[.cells cs]⟩
    | none=>none
   | none=>none
 | .build t ps=>match g7 T.types t,a0u T sl c ps.toList with
   | some ti,some vs=>bif Nat.beq ti.kind 1 && !ti.zero.isEmpty then a9g ((a0i (nth ti.offs) ti.zero vs).map .agg) else
     (bif Nat.beq ti.kind 2 && !ti.zero.isEmpty then(match g7 T.types ti.elem with
      | some te=>a9g ((a0i (fun k=>bif Nat.blt k ti.len then some (k * te.size,te.size) else none) ti.zero vs).map .agg)
      | none=>none) else none)
   | _,_=>none
 | .buildSlice t len ps=>match b0i T sl m c t len ps with
  | some ar=>some ar
  | none=>match g7 T.types t,a0u T sl c ps.toList with
   | some ti,some vs=>match g7 T.types ti.elem with
    | some te=>bif Nat.beq ti.kind 3 && Nat.ble (len * te.size) 1000 && Nat.ble 1 te.size && Nat.beq te.zero.length te.size && !(Nat.beq te.kind 3 && Nat.ble 1 len) then
      (match a0i (fun k=>bif Nat.blt k len then some (k * te.size,te.size) else none) (b3r te.zero len) vs with
      | some cs=>bif d3s cs then some ⟨[],.sl m.length len,[.oarr ti.elem len (a32 cs te.size len 0 te.size)]⟩ else none
      | none=>none) else none
    | none=>none
   | _,_=>none
 | .load t x=>match g7 T.types t,q7 T sl c x with
   | some ti,some (.ptr r off)=>match nth m r with
    | some (.cells cs)=>a9g (loadAt ti cs off)
    | some (.old cs)=>a9g (loadAt ti cs off)
    | _=>none
   | some ti,some (.pix r sz ix off)=>match nth m r with
    | some (.arr n cols)=>a98 ti n cols sz ix off m.length
    | some (.oarr _ n cols)=>a98 ti n cols sz ix off m.length
    | some (.orows _ e' n (some h) (some q) len _)=>bif Nat.beq ti.kind 3 && Nat.beq sz 1 && Nat.beq off 0 && Nat.beq ti.elem e' then some ⟨[ix < n,ix=h],.sl q (len h),[]⟩ else none
    | _=>none
   | _,_=>none
 | .slice t x lo hi none=>match a7g T sl m c t x lo hi with
  | some ar=>some ar
  | none=>match g7 T.types t,q7 T sl c x,a6a T sl c lo,a6a T sl c hi with
   | some ti,some v,some lo,some hi=>match g7 T.types ti.elem with
    | some te=>bif Nat.beq ti.kind 3 then b7i m te v lo hi else none
    | none=>none
   | _,_,_,_=>none
 | .makeMap t none=>match a34 T t with
   | some (k,k')=>some ⟨[],.mp m.length,[.mapi k k' (fun _=>none)]⟩
   | none=>bif a2c T t then some ⟨[],.mp m.length,[.mapp (fun _ _=>false)]⟩ else none
 | .lookup t x y ok=>match q7 T sl c x,q7 T sl c y with
   | some (.mp r),some (.i q n)=>match a34 T t,nth m r with
    | some (k,k'),some (.mapi k2 k2' f)=>bif kEq k k2 && oEq k' k2' && kEq k q && !(kEq k .i8) then some ⟨[],bif ok then .tup [svV k' (a10 (f n)),.b (isS (f n))] else svV k' (a10 (f n)),[]⟩ else none
    | _,_=>none
   | some (.mp r),some v=>match b76 v,nth m r with
    | some (p,q),some (.mapi k2 k2' f)=>match a34 T t with
     | some (k,k')=>bif kEq k k2 && oEq k' k2' && kEq k .i8 then some ⟨[],bif ok then .tup [svV k' (a10 (f (pk p q))),.b (isS (f (pk p q)))] else svV k' (a10 (f (pk p q))),[]⟩ else none
     | none=>none
    | some (p,q),some k=>match a9h k with
     | some f=>bif a2c T t && !ok then some ⟨[],.b (f p q),[]⟩ else none
     | none=>none
    | _,_=>none
   | _,_=>none
 | .makeSlice t x y=>match g7 T.types t,q7 T sl c x,q7 T sl c y with
   | some ti,some (.i _ l),some (.i _ d)=>match g7 T.types ti.elem with
    | some te=>bif Nat.beq ti.kind 3 && Nat.ble 1 te.size && Nat.beq te.zero.length te.size then
      (match x with
      | .const (.int _ (.ofNat 0))=>some ⟨[0≤d,(te.bytes:Int) * d≤281474976710656,d≤9223372036854775807],.sl m.length 0,[.oarr ti.elem 0 (a2f te.size .any)]⟩
      | _=>some ⟨[0≤l,d=l,(te.bytes:Int) * l≤281474976710656,l≤9223372036854775807],.sl m.length l.toNat,[b6x ti.elem te l.toNat]⟩) else none
    | none=>none
   | _,_,_=>none
 | .binOp op t x y _=>match q7 T sl c x,q7 T sl c y with
   | some (.agg a),some (.agg b)=>match g7 T.types t with
    | some ti=>match ti.eqk with
     | some ks=>match a1b ks a b,op with
      | some z,.eql=>some ⟨[],.b z,[]⟩
      | some z,.neq=>some ⟨[],.b (!z),[]⟩
      | _,_=>none
     | none=>none
    | none=>none
   | some a,some b=>match bin T t op a b with
    | some (p,v)=>some ⟨p,v,[]⟩
    | none=>none
   | _,_=>none
 | .unOp op _ x=>match op,q7 T sl c x with
   | .not,some v=>a9g (notB v)
   | .neg,some (.i k n)=>some ⟨[],.i k (k.wrap (0 - n)),[]⟩
   | _,_=>none
 | .fieldAddr t x k=>match g7 T.types t with
   | some ti=>bif Nat.beq ti.kind 1 then(match nth ti.offs k,q7 T sl c x with
    | some o,some (.ptr r off)=>bif Nat.beq o.2 0 then none else some ⟨[],.ptr r (off + o.1),[]⟩
    | some o,some (.pix r sz ix off)=>bif Nat.beq o.2 0 then none else some ⟨[],.pix r sz ix (off + o.1),[]⟩
    | _,_=>none) else none
   | none=>none
 | .indexAddr t x y=>match g7 T.types t,q7 T sl c x,q7 T sl c y with
   | some ti,some v,some (.i _ n)=>match g7 T.types ti.elem with
    | some te=>match v with
     | .ptr r off=>match c5o m r y with
      | some k=>bif Nat.beq ti.kind 2 && Nat.blt k ti.len && Nat.beq te.size 1 then some ⟨[],.ptr r (off + k),[]⟩ else none
      | none=>bif Nat.beq ti.kind 2 && Nat.beq off 0 then some ⟨[0≤n∧n < ti.len],.pix r te.size n.toNat 0,[]⟩ else none
     | .sl r len=>bif Nat.beq ti.kind 3 then some ⟨[0≤n∧n < len],.pix r te.size n.toNat 0,[]⟩ else none
     | .sub r sz lo len=>bif Nat.beq ti.kind 3 && Nat.beq sz te.size then some ⟨[0≤n∧n < len],.pix r sz (lo + n.toNat) 0,[]⟩ else none
     | .pix r sz ix off=>match y with
      | .const (.int _ (.ofNat k))=>bif Nat.beq ti.kind 2 && Nat.blt k ti.len && Nat.beq te.size 1 then some ⟨[],.pix r sz ix (off + k),[]⟩ else none
      | _=>none
     | _=>none
    | none=>none
   | _,_,_=>none
 | .index t x y=>match g7 T.types t,q7 T sl c x,q7 T sl c y with
   | some ti,some (.v (.string s)),some (.i _ n)=>bif Nat.beq ti.kind 6 then some ⟨[0≤n∧n < s.size],.i .u8 (c8h s n),[]⟩ else none
   | _,_,_=>none
 | .convert s d x=>match g7 T.types s,g7 T.types d,q7 T sl c x with
   | some _,some ti,some (.i _ n)=>match ti.ik with
    | some k=>bif Nat.beq ti.kind 0 then some ⟨[],.i k (k.wrap n),[]⟩ else none
    | none=>none
   | _,_,_=>none
 | .extract x k=>match q7 T sl c x with
   | some (.tup xs)=>a9g (nth xs k)
   | _=>none
 | .makeFunc (.func f) fs xs=>match fs.toList,a2l T sl c xs.toList with
   | [],some vs=>some ⟨[],.fn f vs,[]⟩
   | _,_=>none
 | .entry x=>match q7 T sl c x with
   | some (.ptr r 0)=>match nth m r with
    | some (.iterp _ (some (a,b)))=>some ⟨[],.tup [.agg [.i .i64 a,.i .i64 b],.tt],[]⟩
    | _=>none
   | _=>none
 | .field t x k=>match g7 T.types t,q7 T sl c x with
   | some ti,some (.agg xs)=>bif Nat.beq ti.kind 1 then a9g (c24 ti xs k) else none
   | _,_=>none
 | .call cl=>match cl.callee with
   | .builtin b=>match a2l T sl c cl.args.toList with
    | some vs=>match b02 T m b cl.argTypes.toList vs with
     | some ar=>some ar
     | none=>a1w T b cl.argTypes.toList vs
    | none=>none
   | _=>match a3m T sl c cl.callee,a2l T sl c cl.args.toList with
    | some (f,ys),some vs=>match g7 T.calls f with
     | some F=>F m (vs ++ ys)
     | none=>none
    | _,_=>none
 | _=>none
mutual
def SV.refs:SV→List Nat→Bool
 | .ptr r _,l=>y4 r l
 | .pix r _ _ _,l=>y4 r l
 | .sl r _,l=>y4 r l
 | .sub r _ _ _,l=>y4 r l
 | .mp r,l=>y4 r l
 | .agg xs,l=>a3t xs l
 | .tup xs,l=>a3t xs l
 | .fn _ xs,l=>a3t xs l
 | .yld r,l=>y4 r l
 | _,_=>false
def a3t:List SV→List Nat→Bool
 | [],_=>false
 | x :: r,l=>SV.refs x l || a3t r l
end
def a3w (l:List Nat) (x:SV):SV:=bif x.refs l then .dead else x
def a15 (l:List Nat):List Slot→List Slot
 | []=>[]
 | s :: r=>⟨s.ch,a3w l s.sv⟩ :: a15 l r
def q9 (l:List Nat):List SV→List SV
 | []=>[]
 | x :: r=>a3w l x :: q9 l r
def a4o (l:List Nat):Option Nat→Option Nat
 | none=>none
 | some q=>bif y4 q l then none else some q
def l9 (l:List Nat):MBlk→MBlk
 | .cells cs=>.cells (q9 l cs)
 | .old cs=>.old (q9 l cs)
 | .stk cs vs=>.stk (q9 l cs) vs
 | .orows e e' n h k len gs=>.orows e e' n h (a4o l k) len gs
 | k=>k
def x6 (l:List Nat):List MBlk→List MBlk
 | []=>[]
 | k :: r=>l9 l k :: x6 l r
def t4:List MBlk→List (Nat × MBlk)→List MBlk
 | m,[]=>m
 | m,(r,k) :: u=>t4 (i4 m r k) u
def a8x:Col→Bool
 | .any=>false
 | _=>true
def a2q:List Col→Bool
 | []=>true
 | c :: r=>a8x c && a2q r
def a6o (n:Nat):List (Nat→Nat→Int)→List (Nat→Nat→Int)→List (Nat→Nat→Int)
 | g :: r,g' :: r'=>(fun j=>bif Nat.blt j n then g j else g' (j - n)) :: a6o n r r'
 | _,_=>[]
def a9u (n:Nat):Col→Col→Col
 | .rows len gs,.rows len' gs'=>bif Nat.beq gs.length gs'.length then .rows (fun j=>bif Nat.blt j n then len j else len' (j - n)) (a6o n gs gs') else .any
 | .any,.rows len' gs'=>bif Nat.beq n 0 then .rows len' gs' else .any
 | .int k g,.int k' g'=>bif kEq k k' then .int k (fun j=>bif Nat.blt j n then g j else g' (j - n)) else .any
 | .bool g,.bool g'=>.bool (fun j=>bif Nat.blt j n then g j else g' (j - n))
 | .any,.int k g=>bif Nat.beq n 0 then .int k g else .any
 | .any,.bool g=>bif Nat.beq n 0 then .bool g else .any
 | _,_=>.any
def a1z (n:Nat):List Col→List Col→List Col
 | c :: r,c' :: r'=>a9u n c c' :: a1z n r r'
 | _,_=>[]
def a2b (lo:Nat):Col→Col
 | .int k g=>.int k (fun j=>g (lo + j))
 | .bool g=>.bool (fun j=>g (lo + j))
 | .rows len gs=>.rows (fun j=>len (lo + j)) (dropG lo gs)
 | .any=>.any
where dropG (lo:Nat):List (Nat→Nat→Int)→List (Nat→Nat→Int)
 | []=>[]
 | g :: r=>(fun j=>g (lo + j)) :: dropG lo r
def a3n (lo:Nat):List Col→List Col
 | []=>[]
 | c :: r=>a2b lo c :: a3n lo r
def b2c:List Col→Option (List (Nat→Nat→Int))
 | []=>some []
 | .int .i64 g :: r=>match b2c r with
  | some l=>some ((fun _=>g) :: l)
  | none=>none
 | _=>none
def b0s (c:Col) (ix:Nat) (v:SV):Option Col:=
 match c,v with
 | .int k g,.i k' a=>bif kEq k k' then some (.int k (fun j=>bif Nat.beq j ix then a else g j)) else none
 | .bool g,v=>match bOf v with
  | some b=>some (.bool (fun j=>bif Nat.beq j ix then b else g j))
  | none=>none
 | _,_=>none
def a4t:List Col→Nat→Nat→List SV→Option (List Col)
 | cs,0,_,[]=>some cs
 | c :: r,0,ix,v :: vs=>match b0s c ix v,a4t r 0 ix vs with
  | some c',some r'=>some (c' :: r')
  | _,_=>none
 | c :: r,o + 1,ix,vs=>match a4t r o ix vs with
  | some r'=>some (c :: r')
  | none=>none
 | [],0,_,_ :: _=>none
 | [],_ + 1,_,_=>none
def a87:List Col→Option (List (Nat→Int))
 | []=>some []
 | .int .i64 g :: r=>match a87 r with
  | some l=>some (g :: l)
  | none=>none
 | _=>none
def b0t (ix:Nat):List (Nat→Nat→Int)→List (Nat→Int)→List (Nat→Nat→Int)
 | g :: r,h :: s=>(fun j=>bif Nat.beq j ix then h else g j) :: b0t ix r s
 | r,_=>r
def a8k (T:Tab) (sl:List Slot) (m:List MBlk) (c:List (Nat × Bool)) (t:Nat) (x y z:Operand):Option BRes:=
 match q7 T sl c x,q7 T sl c y,q7 T sl c z with
  | some (.mp r),some (.i q n),some z=>match a34 T t,nth m r with
   | some (k,k'),some (.mapi k2 k2' f)=>match b9x k' z with
    | some v=>bif kEq k k2 && oEq k' k2' && kEq k q && !(kEq k .i8) then some ⟨[],.v undef,[],[(r,.mapi k2 k2' (fun j=>bif j == n then some v else f j))],[]⟩ else none
    | none=>none
   | _,_=>none
  | some (.mp r),some v,some z=>match b76 v,nth m r,z with
   | some (p,q),some (.mapi k2 k2' f),z=>match a34 T t with
    | some (k,k')=>match b9x k' z with
     | some v=>bif kEq k k2 && oEq k' k2' && kEq k .i8 then some ⟨[],.v undef,[],[(r,.mapi k2 k2' (fun j=>bif j == pk p q then some v else f j))],[]⟩ else none
     | none=>none
    | none=>none
   | some (p,q),some (.mapp f),.tt=>bif a2c T t then some ⟨[],.v undef,[],[(r,.mapp (fun a b=>(a == p && b == q) || f a b))],[]⟩ else none
   | _,_,_=>none
  | _,_,_=>none
def s6 {α:Type} (a b c:α):Nat→α
 | 0=>a
 | 1=>b
 | _=>c
def a0x (T:Tab) (sl:List Slot) (m:List MBlk) (c:List (Nat × Bool)) (op:Op):Option BRes:=
 match op with
 | .store t x y=>match g7 T.types t,q7 T sl c x,q7 T sl c y with
   | some ti,some (.ptr r off),some v=>match nth m r,cellsOf v with
     | some (.cells cs),some vs=>bif Nat.beq vs.length ti.size && a86 vs then(match a45 cs off vs with
      | some cs'=>some ⟨[],.v undef,[],[(r,.cells cs')],[]⟩
      | none=>none) else none
     | _,_=>none
   | some ti,some (.pix r sz ix 0),some (.sl q k)=>match nth m r,nth m q with
     | some (.orows e e' n (some h) _ len gs),some (.oarr e2 n2 cols)=>match a87 cols with
      | some g=>bif Nat.beq ti.size 1 && Nat.beq sz 1 && Nat.beq e' e2 && Nat.beq gs.length cols.length && !(Nat.beq r q) then
        some ⟨[ix < n,ix=h,k=n2],.v undef,[],[(r,.orows e e' n none none (fun j=>bif Nat.beq j ix then k else len j) (b0t ix gs g)),(q,.gone)],[]⟩ else none
      | none=>none
     | _,_=>none
   | some ti,some (.pix r sz ix off),some v=>match nth m r,cellsOf v with
     | some (.oarr e n cols),some vs=>bif Nat.beq vs.length ti.size && a86 vs && Nat.beq sz cols.length && Nat.ble 1 vs.length then(match a4t cols off ix vs with
      | some cols'=>some ⟨[ix < n],.v undef,[],[(r,.oarr e n cols')],[]⟩
      | none=>none) else none
     | _,_=>none
   | _,_,_=>none
 | .load t x=>match g7 T.types t,q7 T sl c x with
   | some ti,some (.pix r sz ix off)=>match nth m r with
     | some (.orows e e' n none _ len gs)=>bif Nat.beq ti.kind 3 && Nat.beq sz 1 && Nat.beq off 0 && Nat.beq ti.elem e' then
       some ⟨[ix < n],.sl m.length (len ix),[],[(r,.orows e e' n (some ix) (some m.length) len gs)],[.oarr e' (len ix) (a01 gs ix)]⟩ else none
     | _=>none
   | _,_=>none
 | .mapUpdate t x y z=>a8k T sl m c t x y z
 | .insert t x y z=>a8k T sl m c t x y z
 | .buildSlice t (.succ .zero) ps=>match g7 T.types t,a0u T sl c ps.toList with
   | some ti,some [(0,.sl q n)]=>match g7 T.types ti.elem,nth m q with
     | some te,some (.oarr _ n' cols)=>match b2c cols with
      | some gs=>bif Nat.beq ti.kind 3 && Nat.beq te.kind 3 && Nat.beq te.size 1 && Nat.beq te.zero.length 1 then some ⟨[n=n'],.sl m.length 1,[],[(q,.arr n' cols)],[.oarr ti.elem 1 [.rows (fun _=>n) gs]]⟩ else none
      | none=>none
     | _,_=>none
   | _,_=>none
 | .slice t x none (some y) none=>match g7 T.types t,q7 T sl c x,q7 T sl c y with
   | some ti,some (.sl r n),some (.i _ b)=>match g7 T.types ti.elem,nth m r with
     | some te,some (.oarr e n' cols)=>bif Nat.beq ti.kind 3 && Nat.beq te.size cols.length then
       some ⟨[n=n',0≤b,b≤n],.sl r b.toNat,[],[(r,.oarr e b.toNat cols)],[]⟩ else none
     | _,_=>none
   | _,_,_=>none
 | .buildSlice t (.succ (.succ .zero)) ps=>match g7 T.types t,a0u T sl c ps.toList with
   | some ti,some [(0,.sl q0 n0),(1,.sl q1 n1)]=>match g7 T.types ti.elem,nth m q0,nth m q1 with
     | some te,some (.oarr _ k0 [.int .i64 g0]),some (.oarr _ k1 [.int .i64 g1]) =>
      bif Nat.beq ti.kind 3 && Nat.beq te.kind 3 && Nat.beq te.size 1 && Nat.beq te.zero.length 1 && !(Nat.beq q0 q1) then
       some ⟨[n0=k0,n1=k1],.sl m.length 2,[],[(q0,.arr k0 [.int .i64 g0]),(q1,.arr k1 [.int .i64 g1])],[.oarr ti.elem 2 [.rows (s6 n0 n1 n1) [s6 g0 g1 g1]]]⟩ else none
     | _,_,_=>none
   | _,_=>none
 | .buildSlice t (.succ (.succ (.succ .zero))) ps=>match g7 T.types t,a0u T sl c ps.toList with
   | some ti,some [(0,.sl q0 n0),(1,.sl q1 n1),(2,.sl q2 n2)]=>match g7 T.types ti.elem,nth m q0,nth m q1,nth m q2 with
     | some te,some (.oarr _ k0 [.int .i64 g0]),some (.oarr _ k1 [.int .i64 g1]),some (.oarr _ k2 [.int .i64 g2]) =>
      bif Nat.beq ti.kind 3 && Nat.beq te.kind 3 && Nat.beq te.size 1 && Nat.beq te.zero.length 1 && !(Nat.beq q0 q1) && !(Nat.beq q0 q2) && !(Nat.beq q1 q2) then
       some ⟨[n0=k0,n1=k1,n2=k2],.sl m.length 3,[],[(q0,.arr k0 [.int .i64 g0]),(q1,.arr k1 [.int .i64 g1]),(q2,.arr k2 [.int .i64 g2])],[.oarr ti.elem 3 [.rows (s6 n0 n1 n2) [s6 g0 g1 g2]]]⟩ else none
     | _,_,_,_=>none
   | some ti,some [(0,.agg [.i .i64 N0,.sl q0 n0]),(1,.agg [.i .i64 N1,.sl q1 n1]),(2,.agg [.i .i64 N2,.sl q2 n2])]=>match g7 T.types ti.elem,nth m q0,nth m q1,nth m q2 with
     | some te,some (.oarr _ k0 [.int .i64 g0,.int .i64 h0]),some (.oarr _ k1 [.int .i64 g1,.int .i64 h1]),some (.oarr _ k2 [.int .i64 g2,.int .i64 h2]) =>
      bif Nat.beq ti.kind 3 && Nat.beq te.size 2 && Nat.beq te.zero.length 2 && !(Nat.beq q0 q1) && !(Nat.beq q0 q2) && !(Nat.beq q1 q2) then
       some ⟨[n0=k0,n1=k1,n2=k2],.sl m.length 3,[],[(q0,.arr k0 [.int .i64 g0,.int .i64 h0]),(q1,.arr k1 [.int .i64 g1,.int .i64 h1]),(q2,.arr k2 [.int .i64 g2,.int .i64 h2])],[.oarr ti.elem 3 [.int .i64 (s6 N0 N1 N2),.rows (s6 n0 n1 n2) [s6 g0 g1 g2,s6 h0 h1 h2]]]⟩ else none
     | _,_,_,_=>none
   | _,_=>none
 | .range t x=>match q7 T sl c x with
   | some (.mp r)=>bif a2c T t then match nth m r with
     | some (.mapp f)=>some ⟨[],.ptr m.length 0,[],[(r,.fmapp f)],[.iterp f none]⟩
     | some (.fmapp f)=>some ⟨[],.ptr m.length 0,[],[],[.iterp f none]⟩
     | _=>none
    else none
   | _=>none
 | .call cl=>match a3m T sl c cl.callee with
  | some (f,ys)=>match g7 T.callsB f,a2l T sl c cl.args.toList with
   | some F,some vs=>F m (vs ++ ys)
   | _,_=>none
  | none=>match cl.callee,cl.args.toList,cl.argTypes.toList with
   | .builtin .append,[x,y],[t,t']=>match g7 T.types t,q7 T sl c x,q7 T sl c y with
     | some ti,some (.sl r n),some (.sl q k)=>match g7 T.types ti.elem,nth m r,nth m q with
      | some te,some (.oarr e n' cols),some kq=>match a5o kq with
       | some (k',cols')=>bif Nat.beq t t' && Nat.beq ti.kind 3 && Nat.beq e ti.elem && Nat.beq cols.length te.size && Nat.beq cols'.length te.size && Nat.beq te.zero.length te.size && Nat.blt 0 te.size && a2q cols' then
         some ⟨[n=n',k=k',(n + k) * te.bytes≤140737488355328,n + k≤9223372036854775807],.sl r (n + k),[r],[(r,.oarr e (n + k) (a1z n cols cols'))],[]⟩ else none
       | none=>none
      | some te,some (.orows e e1 n' none _ len gs),some (.orows e2 e3 k' none _ len2 gs2)=>bif Nat.beq t t' && Nat.beq ti.kind 3 && Nat.beq e ti.elem && Nat.beq e2 ti.elem && Nat.beq e1 e3 && Nat.beq gs.length gs2.length && Nat.beq te.size 1 && Nat.beq te.zero.length 1 && Nat.beq k 1 && Nat.beq k' 1 && !(Nat.beq r q) then
         some ⟨[n=n',(n + 1) * te.bytes≤140737488355328,n + 1≤9223372036854775807],.sl r (n + 1),[r],[(r,.orows e e1 (n + 1) none none (fun j=>bif Nat.blt j n then len j else len2 (j - n)) (a6o n gs gs2)),(q,.gone)],[]⟩ else none
      | _,_,_=>none
     | some ti,some (.sl r n),some (.sub q sz lo k)=>match g7 T.types ti.elem,nth m r,nth m q with
      | some te,some (.oarr e n' cols),some kq=>match a5o kq with
       | some (k',cols')=>bif Nat.beq t t' && Nat.beq ti.kind 3 && Nat.beq e ti.elem && Nat.beq cols.length te.size && Nat.beq cols'.length te.size && Nat.beq te.zero.length te.size && Nat.blt 0 te.size && a2q cols' && Nat.beq sz te.size then
         some ⟨[n=n',lo + k≤k',(n + k) * te.bytes≤140737488355328,n + k≤9223372036854775807],.sl r (n + k),[r],[(r,.oarr e (n + k) (a1z n cols (a3n lo cols')))],[]⟩ else none
       | none=>none
      | _,_,_=>none
     | _,_,_=>none
   | .builtin .clear,[x],[t]=>match g7 T.types t,q7 T sl c x with
     | some ti,some (.sub r sz lo n)=>match g7 T.types ti.elem,nth m r with
      | some te,some (.oarr e n' [.int .i64 g])=>match te.ik with
       | some .i64=>bif Nat.beq ti.kind 3 && Nat.beq te.kind 0 && Nat.beq sz 1 then
         some ⟨[lo + n=n'],.tup [],[],[(r,.oarr e n' [.int .i64 (fun j=>bif Nat.blt j lo then g j else 0)])],[]⟩ else none
       | _=>none
      | _,_=>none
     | _,_=>none
   | _,_,_=>none
 | _=>none
def a42 (sl:List Slot) (ops:List Oper):Option (Nat × Bool)→Option (Option (List (Nat × Bool)))
 | none=>some (some [])
 | some (j,w)=>match nth ops j with
  | some o=>match o.dst with
   | some d=>match nth sl d with
    | some s=>match s.sv,w with
     | .tt,true=>some (some s.ch)
     | .ff,false=>some (some s.ch)
     | .tt,false=>some none
     | .ff,true=>some none
     | .b _,_=>some (some ((d,w) :: s.ch))
     | _,_=>none
    | none=>none
   | none=>none
  | none=>none
def b0y (sl:List Slot):List (Nat × Bool)→Prop→Prop
 | [],p=>p
 | (q,w) :: r,p=>match nth sl q with
  | some s=>match s.sv with
   | .b x=>x=w→b0y sl r p
   | _=>b0y sl r p
  | none=>b0y sl r p
def b2k (sl:List Slot) (c:List (Nat × Bool)):List (Nat × Bool)→Bool
 | []=>true
 | (q,_) :: r=>(match nth sl q with | some s=>b43 s.ch c | none=>false) && b2k sl c r
def a58 (sl:List Slot) (dst:Option Nat) (s:Slot):Option (List Slot):=
 match dst with
 | some d=>match nth sl d with
  | some _=>some (i4 sl d s)
  | none=>none
 | none=>some sl
def a8a (d:Nat):List (Nat × Bool)→Bool
 | []=>true
 | (q,_) :: r=>!(Nat.beq q d) && a8a d r
def a7i (dst:Option Nat) (c:List (Nat × Bool)):Bool:=
 match dst with
 | some d=>a8a d c
 | none=>true
def s8 (dst:Option Nat):List Slot→Bool
 | []=>true
 | s :: r=>(match dst with | some d=>a8a d s.ch | none=>true) && s8 dst r
def a9v (s:Slot):Slot:=
 match s.ch with
 | []=>s
 | _=>⟨[],.dead⟩
def clean:List Slot→List Slot
 | []=>[]
 | s :: r=>a9v s :: clean r
def a6r (sl:List Slot) (c:List (Nat × Bool)):List Prop→List Prop
 | []=>[]
 | p :: r=>b0y sl c p :: a6r sl c r
def app (m new:List MBlk):List MBlk:=
 match new with
 | []=>m
 | _=>m ++ new
theorem a9s (m new:List MBlk):app m new=m ++ new:=by
 unfold app
 split
 ·simp
 ·rfl
def b5x (T:Tab) (dst:Option Nat) (v:SV):SV:=
 match dst with
 | some d=>bif y4 d T.sure then(match v with | .b _=>.tt | v=>v) else v
 | none=>v
def b9o (T:Tab) (dst:Option Nat) (v:SV) (ps:List Prop):List Prop:=
 match dst with
 | some d=>bif y4 d T.sure then(match v with | .b x=>(x=true) :: ps | _=>ps) else ps
 | none=>ps
def opA (T:Tab) (ops:List Oper) (sl:List Slot) (m:List MBlk) (o:Oper):Option (List Prop × List Slot × List MBlk):=
 match a42 sl ops o.guard with
 | some (some c)=>bif b2k sl c c && s8 o.dst sl && a7i o.dst c then(match q8 T sl m c o.type o.op with
  | some a=>match a58 sl o.dst ⟨c,b5x T o.dst a.sv⟩ with
   | some sl'=>some (a6r sl c (b9o T o.dst a.sv a.pre),sl',app m a.new)
   | none=>none
  | none=>none) else none
 | some none=>bif s8 o.dst sl then(match a58 sl o.dst ⟨[],.dead⟩ with
  | some sl'=>some ([],sl',m)
  | none=>none) else none
 | none=>none
def settle (T:Tab) (sl:List Slot) (m:List MBlk) (op:Op):Option (List Prop × List (Nat × MBlk)):=
 match op with
 | .call cl=>match cl.callee,cl.args.toList with
  | .builtin .append,[_,y]=>match q7 T sl [] y with
   | some (.sl q _)=>match nth m q with
    | some (.orows e2 e3 n (some 0) (some p) len gs0)=>match nth m p with
     | some (.oarr e4 j cols)=>bif y4 1000003 T.sure then(bif Nat.beq n 1 && Nat.beq j 0 && Nat.beq e3 e4 && Nat.beq gs0.length cols.length then some ([len 0=0],[(q,.orows e2 e3 1 none none len gs0),(p,.gone)]) else none) else(match b2c cols with
      | some gs=>bif Nat.beq n 1 then some ([len 0=j],[(p,.arr j cols),(q,.oarr e2 1 [.rows (fun _=>j) gs])]) else none
      | none=>none)
     | _=>none
    | _=>none
   | _=>none
  | _,_=>none
 | _=>none
def b42 (T:Tab) (sl:List Slot) (m:List MBlk) (op:Op):Option BRes:=
 match settle T sl m op with
 | some (ps,us)=>match a0x T sl (t4 m us) [] op with
  | some b=>some ⟨ps ++ b.pre,b.sv,b.kill,us ++ b.upd,b.new⟩
  | none=>none
 | none=>a0x T sl m [] op
def a1t (l:List Nat):List Nat→Bool
 | []=>true
 | r :: g=>!(y4 r l) && a1t l g
def opB (T:Tab) (ops:List Oper) (sl:List Slot) (m:List MBlk) (o:Oper):Option (List Prop × List Slot × List MBlk × List Nat):=
 match a42 sl ops o.guard with
 | some (some [])=>bif s8 o.dst sl then(match b42 T sl m o.op with
  | some b=>bif a1t b.kill (a0z T) then(match a58 (a15 b.kill sl) o.dst ⟨[],b.sv⟩ with
   | some sl'=>some (b.pre,sl',app (t4 (x6 b.kill m) b.upd) b.new,b.upd.map (·.1))
   | none=>none) else none
  | none=>none) else none
 | _=>none
def a9n (T:Tab) (ops:List Oper):List Oper→St→Option (List Prop × St)
 | [],s=>some ([],⟨clean s.slots,s.mem,s.dirty⟩)
 | o :: rest,s=>match opA T ops s.slots s.mem o with
  | some (ps,sl,m)=>match a9n T ops rest ⟨sl,m,s.dirty⟩ with
   | some (qs,s')=>some (ps ++ qs,s')
   | none=>none
  | none=>match opB T ops s.slots s.mem o with
   | some (ps,sl,m,d)=>match a9n T ops rest ⟨sl,m,d ++ s.dirty⟩ with
    | some (qs,s')=>some (ps ++ qs,s')
    | none=>none
   | none=>none
def y8 (sl:List Slot) (ops:List Oper) (o:Oper):List Nat:=
 o.op.operands.toList.filterMap (fun | .tmp t=>some t | _=>none) ++
 (match o.guard with
  | some (g,_)=>match nth ops g with
   | some og=>og.dst.toList
   | none=>[]
  | none=>[]) ++
 (match a42 sl ops o.guard with
  | some (some c)=>c.map (·.1)
  | _=>[])
def b0n (T:Tab) (ops:List Oper):List Oper→List Slot→List MBlk→List Prop × List Slot × List MBlk × List (List Nat) × List Oper
 | [],sl,m=>([],sl,m,[],[])
 | o :: rest,sl,m=>match opA T ops sl m o with
  | some (ps,sl',m')=>match b0n T ops rest sl' m' with
   | (qs,sl2,m2,ls,r)=>(ps ++ qs,sl2,m2,y8 sl ops o :: ls,r)
  | none=>([],sl,m,[],o :: rest)
def c1l (T:Tab) (ops:List Oper):List Oper→St→Option (List Prop × St)
 | [],s=>some ([],s)
 | o :: rest,s=>match opA T ops s.slots s.mem o with
  | some (ps,sl,m)=>match c1l T ops rest ⟨sl,m,s.dirty⟩ with
   | some (qs,s')=>some (ps ++ qs,s')
   | none=>none
  | none=>match opB T ops s.slots s.mem o with
   | some (ps,sl,m,d)=>match c1l T ops rest ⟨sl,m,d ++ s.dirty⟩ with
    | some (qs,s')=>some (ps ++ qs,s')
    | none=>none
   | none=>none
def a7r (acc:List Nat):List Edge→Nat
 | []=>0
 | e :: r=>bif Region.binds .any e then(1 <<< e.on) ||| (match nth acc e.on with | some x=>x | none=>0) ||| a7r acc r else a7r acc r
def u5:List Oper→List Nat→List Nat
 | [],acc=>acc
 | o :: r,acc=>u5 r (acc ++ [a7r acc o.after.toList])
def a91 (i:Nat):List Edge→Bool
 | []=>true
 | e :: r=>(!(Region.binds .any e) || Nat.blt e.on i) && a91 i r
def z8:Nat→List Oper→Bool
 | _,[]=>true
 | i,o :: r=>a91 i o.after.toList && z8 (i + 1) r
def b3a (i ai t:Nat):Nat→List Oper→List Nat→Bool
 | j,o :: r,aj :: ar=>(bif Nat.beq j i then true else match o.dst with
   | some d=>bif Nat.beq d t then(bif Nat.blt j i then Nat.testBit ai j else Nat.testBit aj i) else true
   | none=>true) && b3a i ai t (j + 1) r ar
 | _,_,_=>true
def a99 (i ai:Nat) (ops:List Oper) (an:List Nat):List Nat→Bool
 | []=>true
 | t :: r=>b3a i ai t 0 ops an && a99 i ai ops an r
def a04 (ops:List Oper) (an:List Nat):Nat→List (List Nat)→List Nat→Bool
 | i,l :: ls,ai :: ar=>a99 i ai ops an l && a04 ops an (i + 1) ls ar
 | _,[],_=>true
 | _,_,[]=>false
def c23 (d:Nat):List Oper→Bool
 | []=>false
 | o :: r=>(match o.dst with | some e=>Nat.beq e d | none=>false) || c23 d r
def a4z:List Oper→Bool
 | []=>true
 | o :: r=>(match o.dst with | some d=>!(c23 d r) | none=>true) && a4z r
def a3z:Nat→List Nat→Bool
 | _,[]=>true
 | b,a :: r=>Nat.beq (a &&& (1 <<< b - 1)) (1 <<< b - 1) && a3z (b + 1) r
def a0c:List Slot→Bool
 | []=>true
 | s :: r=>s.ch.isEmpty && a0c r
def b6d (T:Tab) (ops:List Oper) (s:St):Option (List Prop × St):=
 match b0n T ops ops s.slots s.mem with
 | (ps,sl,m,ls,r) =>
  let an:=u5 ops []
  bif a0c s.slots && z8 0 ops && a4z ops && a04 ops an 0 ls an && a3z ls.length (a12 ls.length an) then(match c1l T ops r ⟨sl,m,s.dirty⟩ with
   | some (qs,s')=>some (ps ++ qs,⟨clean s'.slots,s'.mem,s'.dirty⟩)
   | none=>none) else none
def b7o (T:Tab) (sl:List Slot) (m:List MBlk) (o:Oper):Option (List (Nat × Nat × SV)):=
 match o.guard with
 | some _=>none
 | none=>match o.op with
  | .move _=>some []
  | .indexAddr _ _ _=>some []
  | .fieldAddr _ _ _=>some []
  | .load t x=>match g7 T.types t,q7 T sl [] x with
   | some ti,some (.ptr r off)=>match nth m r with
    | some (.cells cs)=>match nth cs off with
     | some (.i k n)=>bif Nat.beq ti.kind 1 || Nat.beq ti.kind 2 then none else some [(r,off,.i k n)]
     | some (.sl q n)=>bif Nat.beq ti.kind 1 || Nat.beq ti.kind 2 then none else some [(r,off,.sl q n),(q,0,.dead)]
     | _=>none
    | some (.old _)=>some []
    | _=>none
   | some ti,some (.pix q _ _ _)=>match nth m q with
    | some (.arr _ _)=>bif Nat.beq ti.kind 3 || (Nat.beq ti.kind 1 && Nat.beq ti.size 2) then none else some []
    | _=>none
   | _,_=>none
  | .call cl=>match cl.callee,cl.args.toList with
   | .builtin .len,[x]=>match q7 T sl [] x with
    | some (.sl _ _)=>some []
    | _=>none
   | _,_=>none
  | .slice t x none (some y) none=>bif y4 1000001 T.sure then none else(match g7 T.types t,q7 T sl [] x,q7 T sl [] y with
   | some _,some (.sl r _),some (.i _ _)=>match nth m r with
    | some (.arr _ _)=>some []
    | _=>none
   | _,_,_=>none)
  | _=>none
def c56 (T:Tab) (ops:List Oper):List Oper→List Slot→List MBlk→List (List (Nat × Nat × SV))
 | [],_,_=>[]
 | o :: rest,sl,m=>match b7o T sl m o,opA T ops sl m o with
  | some h,some (_,sl',m')=>h :: c56 T ops rest sl' m'
  | _,_=>[]
def b58:List (List (Nat × Nat × SV))→List (Nat × Nat × SV)
 | []=>[]
 | h :: r=>h ++ b58 r
def a13 (n:Nat):Nat→Array Bool
 | 0=>Array.replicate n false
 | i + 1=>(a13 n i).setIfInBounds i true
def b4a (ops:Array Oper):Nat→Bool
 | 0=>true
 | i + 1=>Region.free .any ops (a13 ops.size i) i && (Region.ready .any ops (a13 ops.size i)).contains i && b4a ops i
def a4i (k L:Nat):Nat→List Nat→Bool
 | _,[]=>true
 | b,a :: r=>Nat.beq ((a ||| (1 <<< k - 1) ||| L) &&& (1 <<< b - 1)) (1 <<< b - 1) && a4i k L (b + 1) r
def b01 (o:Oper):Bool:=match o.guard with
 | some _=>false
 | none=>match o.op with
  | .move _=>true
  | .extract _ _=>true
  | _=>false
def b36 (n:Nat):Nat→List Oper→Nat
 | _,[]=>0
 | i,o :: r=>(bif b01 o && Nat.blt i n then 1 <<< i else 0) ||| b36 n (i + 1) r
def a9r (size L:Nat):Nat→Array Bool
 | 0=>Array.replicate size false
 | i + 1=>bif Nat.testBit L i then a9r size L i else(a9r size L i).setIfInBounds i true
def a6z (ops:Array Oper) (L0:Nat) (lst:Array Bool):Nat→Nat
 | 0=>0
 | j + 1=>(bif Nat.testBit L0 j && Region.free .any ops lst j then 1 <<< j else 0) ||| a6z ops L0 lst j
def c8z:Nat→List Nat→Nat
 | m,[]=>m
 | m,a :: r=>c8z (m &&& a) r
def b6q (ops:Array Oper) (n:Nat):Nat:=
 let L0:=b36 n 0 ops.toList &&& ((1 <<< n - 1) ^^^ c8z (1 <<< n - 1) (a12 n (u5 ops.toList [])))
 a6z ops L0 (a9r ops.size L0 n) n
def b3h (rs:List (Nat × Nat × SV)) (d:List Nat):Bool:=
 match rs with
 | []=>true
 | h :: r=>((match h.2.2 with | .dead=>true | _=>false) || !(y4 h.1 d)) && b3h r d
def b4v (T:Tab) (ops:List Oper) (rs:List (Nat × Nat × SV)):List Oper→St→Option (List Prop × St)
 | [],s=>some ([],s)
 | o :: rest,s=>match opA T ops s.slots s.mem o with
  | some (ps,sl,m)=>match b4v T ops rs rest ⟨sl,m,s.dirty⟩ with
   | some (qs,s')=>some (ps ++ qs,s')
   | none=>none
  | none=>match opB T ops s.slots s.mem o with
   | some (ps,sl,m,d)=>bif b3h rs d then(match b4v T ops rs rest ⟨sl,m,d ++ s.dirty⟩ with
    | some (qs,s')=>some (ps ++ qs,s')
    | none=>none) else none
   | none=>none
def Tab.pinned (T:Tab) (f:Nat→Option Addr × Nat) (rs:List (Nat × Nat × SV)):Tab:=⟨T.types,T.globals,T.calls,T.loops,T.callsB,rs.map (fun h=>(h.1,f h.1)) ++ T.pins,T.takes,T.sure,T.inl,T.back,T.rmode⟩
def a8z (T:Tab) (ops:Array Oper) (s:St):Option (List Prop × St):=
 match b0n T ops.toList ops.toList s.slots s.mem with
 | (ps,sl,m,ls,r) =>
  let an:=u5 ops.toList []
  let tk:=c56 T ops.toList ops.toList s.slots s.mem
  let rs:=b58 tk
  bif a0c s.slots && z8 0 ops.toList && a4z ops.toList && a04 ops.toList an 0 ls an && a4i tk.length (b6q ops ls.length) ls.length (a12 ls.length an) && Nat.ble tk.length ls.length && Region.noSelect ops && b4a ops tk.length then
   (match b4v (T.pinned (fun _=>(none,0)) rs) ops.toList rs r ⟨sl,m,s.dirty⟩ with
   | some (qs,s')=>some (ps ++ qs,⟨clean s'.slots,s'.mem,s'.dirty⟩)
   | none=>none) else none
def a4n (T:Tab) (ops:Array Oper) (s:St):Option (List Prop × St):=
 match b6d T ops.toList s with
 | some x=>some x
 | none=>a8z T ops s
def a0h (l:List Nat) (i:Nat):Nat:=match nth l i with
 | some x=>x
 | none=>i
def b6y (pi:List Nat) (ex:List (Nat × Nat)) (i:Nat) (o:Oper):Oper:={ o with after:=((o.after.toList.map (fun e:Edge=>({ on:=a0h pi e.on,ground:=e.ground }:Edge))) ++ ((ex.filter (fun p:Nat × Nat=>Nat.beq p.2 i)).map (fun p:Nat × Nat=>({ on:=a0h pi p.1,ground:=.data }:Edge)))).toArray }
def a0d (ops:List Oper) (inv pi:List Nat) (ex:List (Nat × Nat)):List Oper:=inv.map (fun i=>match nth ops i with
 | some o=>b6y pi ex i o
 | none=>default)
def c2h (n:Nat) (inv pi:List Nat):Nat→Bool
 | 0=>true
 | i + 1=>Nat.blt (a0h pi i) n && Nat.beq (a0h inv (a0h pi i)) i && Nat.blt (a0h inv i) n && Nat.beq (a0h pi (a0h inv i)) i && c2h n inv pi i
def b1r:List Oper→Bool
 | []=>true
 | o :: r=>(match o.guard with | none=>true | some _=>false) && b1r r
def c9g (n:Nat):List (Nat × Nat)→Bool
 | []=>true
 | p :: r=>Nat.blt p.1 n && Nat.blt p.2 n && c9g n r
def b0b (ops:List Oper) (inv pi:List Nat) (ex:List (Nat × Nat)):Bool:=Nat.beq inv.length ops.length && Nat.beq pi.length ops.length && c2h ops.length inv pi ops.length && b1r ops && c9g ops.length ex
def a9c (q t n:Nat):List Nat:=(List.range n).map (fun j=>bif Nat.blt j t then j else bif Nat.beq j t then q else bif Nat.ble j q then j - 1 else j)
def b6z (q t n:Nat):List Nat:=(List.range n).map (fun i=>bif Nat.blt i t then i else bif Nat.blt i q then i + 1 else bif Nat.beq i q then t else i)
def a7j (T:Tab) (ops:Array Oper) (s:St):Option ((List Prop × St) × (List Prop × St) × (List Prop × St)):=
 match b0n T ops.toList ops.toList s.slots s.mem with
 | (_,_,_,ls,_)=>splitAt3 T ops s ls.length (ls.length + 2) ops.toList.length
where splitAt3 (T:Tab) (ops:Array Oper) (s:St) (b q n:Nat):Option ((List Prop × St) × (List Prop × St) × (List Prop × St)):=
 bif b0b ops.toList (a9c q b n) (b6z q b n) [(q,b)] && b0b ops.toList (a9c q (b + 1) n) (b6z q (b + 1) n) [(b,q),(q,b + 1)] && b0b ops.toList (a9c q q n) (b6z q q n) [(b,q),(b + 1,q)] && !(Nat.beq q b) && !(Nat.beq q (b + 1)) then
  match a4n T (a0d ops.toList (a9c q b n) (b6z q b n) [(q,b)]).toArray s,a4n T (a0d ops.toList (a9c q (b + 1) n) (b6z q (b + 1) n) [(b,q),(q,b + 1)]).toArray s,a4n T (a0d ops.toList (a9c q q n) (b6z q q n) [(b,q),(b + 1,q)]).toArray s with
  | some x,some y,some z=>some (x,y,z)
  | _,_,_=>none
 else none
def a5v:List Prop→Prop→Prop
 | [],p=>p
 | q :: r,p=>q∧a5v r p
inductive DT where
 | leaf (inv:List Nat)
 | node (x i:Nat) (l r:DT)
def c8l:Nat→List Nat→List Nat
 | 0,_=>[]
 | _,[]=>[]
 | n + 1,x :: r=>x :: c8l n r
def d3e:Nat→List Nat→Option (DT × List Nat)
 | 0,_=>none
 | f + 1,k :: r=>match k with
  | 0=>(match r with
   | n :: r=>some (.leaf (c8l n r),a12 n r)
   | []=>none)
  | _=>(match r with
   | x :: i :: r=>(match d3e f r with
    | some (a,r1)=>(match d3e f r1 with
     | some (b,r2)=>some (.node x i a b,r2)
     | none=>none)
    | none=>none)
   | _=>none)
 | _,[]=>none
def d2b:List Gh→List Nat
 | .mv n :: r=>n :: d2b r
 | _=>[]
def d4x (T:Tab) (id:Nat):Option DT:=match g7 T.takes (1000000 + id) with
 | some f=>(match d3e 64 (d2b (f [] [])) with
  | some (t,_)=>some t
  | none=>none)
 | none=>none
def posN (x:Nat):List Nat→Nat
 | []=>0
 | y :: r=>bif Nat.beq x y then 0 else posN x r + 1
def a6x (inv:List Nat):List Nat:=(List.range inv.length).map (fun i=>posN i inv)
def a0e:Code→List Nat
 | .region _ ops _=>ops.toList.filterMap (·.dst)
 | .seq a b=>a0e a ++ a0e b
 | .cond _ a b=>a0e a ++ a0e b
 | .block _ c=>a0e c
 | .loop c=>a0e c
 | .scope c=>a0e c
 | _=>[]
def refine(sl:List Slot) (x:Operand) (v:SV):List Slot:=
 match x with
 | .tmp t=>i4 sl t ⟨[],v⟩
 | _=>sl
mutual
def veq:SV→SV→Prop
 | .dead,_=>True
 | .tt,y=>match bOf y with | some b=>b=true | none=>False
 | .ff,y=>match bOf y with | some b=>b=false | none=>False
 | .b x,y=>match bOf y with | some b=>b=x | none=>False
 | .i k n,.i k' n'=>bif kEq k k' then n'=n else False
 | .nilsl,.nilsl=>True
 | .nilptr,.nilptr=>True
 | .nilmap,.nilmap=>True
 | .ptr r o,.ptr r' o'=>bif Nat.beq r r' && Nat.beq o o' then True else False
 | .pix r sz ix o,.pix r' sz' ix' o'=>bif Nat.beq r r' && Nat.beq sz sz' && Nat.beq o o' then ix'=ix else False
 | .sl r n,.sl r' n'=>bif Nat.beq r r' then n'=n else False
 | .sub r sz lo n,.sub r' sz' lo' n'=>bif Nat.beq r r' && Nat.beq sz sz' then lo'=lo∧n'=n else False
 | .mp r,.mp r'=>bif Nat.beq r r' then True else False
 | .agg xs,.agg ys=>a6n xs ys
 | .tup xs,.tup ys=>a6n xs ys
 | .fn f xs,.fn g ys=>bif Nat.beq f g then a6n xs ys else False
 | .yld r,.yld r'=>bif Nat.beq r r' then True else False
 | .v x,.v y=>y=x
 | _,_=>False
def a6n:List SV→List SV→Prop
 | [],[]=>True
 | [x],[y]=>veq x y
 | x :: xs,y :: ys=>veq x y∧a6n xs ys
 | _,_=>False
end
def a66 (n:Nat) (len:Nat→Nat):List (Nat→Nat→Int)→List (Nat→Nat→Int)→Prop
 | [],[]=>True
 | g :: r,g' :: r'=>(∀ j,j < n→∀ i,i < len j→g' j i=g j i)∧a66 n len r r'
 | _,_=>False
def a8w (n:Nat):Col→Col→Prop
 | .any,_=>True
 | .int _ _,.any=>n=0
 | .bool _,.any=>n=0
 | .rows _ _,.any=>n=0
 | .rows len gs,.rows len' gs'=>(∀ j,j < n→len' j=len j)∧a66 n len gs gs'
 | .int k g,.int k' g'=>bif kEq k k' then(∀ j,j < n→g' j=g j) else False
 | .bool g,.bool g'=>∀ j,j < n→g' j=g j
 | _,_=>False
def a1a (n:Nat):List Col→List Col→Prop
 | [],[]=>True
 | x :: xs,y :: ys=>a8w n x y∧a1a n xs ys
 | _,_=>False
def hEq:Option Nat→Option Nat→Bool
 | none,none=>true
 | some a,some b=>Nat.beq a b
 | _,_=>false
def d3l:Option Nat→Option Nat→Bool
 | none,_=>true
 | some a,some b=>Nat.beq a b
 | _,_=>false
def meq:MBlk→MBlk→Prop
 | .gone,_=>True
 | .cells xs,.cells ys=>a6n xs ys
 | .old xs,.old ys=>a6n xs ys
 | .stk xs us,.stk ys vs=>a6n xs ys∧us=vs
 | .lup st us cd,.lup st' us' cd'=>bif c6a st st' then us=us'∧cd=cd' else False
 | .arr n c,.arr n' c'=>n'=n∧a1a n c c'
 | .oarr e n c,.oarr e' n' c'=>bif Nat.beq e e' then n'=n∧a1a n c c' else False
 | .mapi k k' f,.mapi q q' f'=>bif kEq k q && oEq k' q' then ∀ x,f' x=f x else False
 | .mapp f,.mapp f'=>∀ x y,f' x y=f x y
 | .fmapp f,.fmapp f'=>∀ x y,f' x y=f x y
 | .iterp f c,.iterp f' c'=>(∀ x y,f' x y=f x y)∧(match c with | none=>True | some p=>c'=some p)
 | .orows e q n h k len gs,.orows e' q' n' h' k' len' gs'=>bif Nat.beq e e' && Nat.beq q q' && hEq h h' && d3l k k' then n'=n∧(∀ j,j < n→len' j=len j)∧a66 n len gs gs' else False
 | _,_=>False
def a9o (sl:List Slot):List (Nat × SV)→Prop
 | []=>True
 | (d,x) :: r=>(match nth sl d with | some s=>(match s.ch with | []=>veq x s.sv | _=>(match x with | .dead=>True | _=>False)) | none=>False)∧a9o sl r
def b8j (m:List MBlk):List (Nat × MBlk)→Prop
 | []=>True
 | (d,x) :: r=>(match nth m d with | some k=>meq x k | none=>False)∧b8j m r
def a0j (ps:List (Nat × SV)) (ws kill:List Nat):Nat→List Slot→List Slot
 | _,[]=>[]
 | d,s :: r=>(match g7 ps d with
  | some v=>⟨[],v⟩
  | none=>bif y4 d ws then⟨[],.dead⟩ else(match s.ch with
   | []=>⟨[],a3w kill s.sv⟩
   | _=>⟨[],.dead⟩)) :: a0j ps ws kill (d + 1) r
def a0p (ps:List (Nat × MBlk)) (kill:List Nat):Nat→List MBlk→List MBlk
 | _,[]=>[]
 | d,k :: r=>(match g7 ps d with
  | some v=>v
  | none=>l9 kill k) :: a0p ps kill (d + 1) r
def head (L:LAnn) (ws:List Nat) (s:St) (x:L.X):St:=
 ⟨a0j (L.slots x) ws L.kill 0 s.slots,a0p (L.mem x) L.kill 0 s.mem,[]⟩
def a3k:Option MBlk→Option MBlk
 | some (.arr n c)=>some (.arr n c)
 | some (.oarr _ 0 c)=>some (.arr 0 c)
 | _=>none
def b1w (gs:List Nat) (e r off:Nat) (s:St):St:=match nth s.mem r with
 | some (.cells cs)=>match nth cs off with
  | some (.sl q n)=>match a3k (nth s.mem q) with
   | some k=>bif Nat.blt e s.mem.length && gs.all (fun g=>!Nat.beq g e) && !(Nat.beq e r) then⟨a0j [] [] [e] 0 s.slots,a0p [(e,k),(r,.cells (i4 (q9 [e] cs) off (.sl e n)))] [e] 0 s.mem,s.dirty⟩ else s
   | none=>s
  | _=>s
 | _=>s
def b1x (gs:List Nat) (e r off:Nat) (s:St):St:=match nth s.mem r with
 | some (.cells cs)=>match nth cs off with
  | some (.sl q n)=>match nth s.mem q with
   | some (.oarr e0 n0 c0)=>bif Nat.blt e s.mem.length && gs.all (fun g=>!Nat.beq g e) && !(Nat.beq e r) && !(Nat.beq q e) then⟨a0j [] [] [e,q] 0 s.slots,a0p [(e,.oarr e0 n0 c0),(r,.cells (i4 (q9 [e,q] cs) off (.sl e n))),(q,.gone)] [e,q] 0 s.mem,s.dirty⟩ else s
   | _=>s
  | _=>s
 | _=>s
def b1y (gs:List Nat) (e d:Nat) (s:St):St:=match nth s.slots d with
 | some ⟨[],.sl q n⟩=>match nth s.mem q with
  | some (.oarr e0 n0 c0)=>bif Nat.blt e s.mem.length && gs.all (fun g=>!Nat.beq g e) && !(Nat.beq q e) then⟨a0j [(d,.sl e n)] [] [e,q] 0 s.slots,a0p [(e,.oarr e0 n0 c0),(q,.gone)] [e,q] 0 s.mem,s.dirty⟩ else s
  | _=>s
 | _=>s
def b7c (gs:List Nat) (p:Nat × Nat) (s:St):St:=bif Nat.ble 3000000 p.2 then b1y gs p.1 (p.2 - 3000000) s else bif Nat.ble 2000000 p.2 then b1x gs p.1 ((p.2 - 2000000) / 100) ((p.2 - 2000000) % 100) s else bif Nat.ble 1000000 p.2 then b1w gs p.1 ((p.2 - 1000000) / 100) ((p.2 - 1000000) % 100) s else match nth s.slots p.2 with
 | some ⟨[],.sl r n⟩=>match a3k (nth s.mem r) with
  | some k=>bif Nat.blt p.1 s.mem.length && gs.all (fun g=>!Nat.beq g p.1) then⟨a0j [(p.2,.sl p.1 n)] [] [p.1] 0 s.slots,a0p [(p.1,k)] [p.1] 0 s.mem,s.dirty⟩ else s
  | none=>s
 | _=>s
def a3y (gs:List Nat):List (Nat × Nat)→St→St
 | [],s=>s
 | p :: r,s=>a3y gs r (b7c gs p s)
def a1v:List Slot→List Slot→Prop
 | [],[]=>True
 | [],_ :: _=>False
 | h :: hs,s :: ss=>(match h.sv with
  | .dead=>a1v hs ss
  | x=>(match s.ch with
   | []=>veq x s.sv∧a1v hs ss
   | _=>False))
 | _ :: _,[]=>False
def a61:List MBlk→List MBlk→Prop
 | [],_=>True
 | h :: hs,s :: ss=>(match h with
  | .gone=>a61 hs ss
  | x=>meq x s∧a61 hs ss)
 | _ :: _,[]=>False
mutual
def SV.ltB:SV→Nat→Bool
 | .ptr r _,n=>Nat.blt r n
 | .pix r _ _ _,n=>Nat.blt r n
 | .sl r _,n=>Nat.blt r n
 | .sub r _ _ _,n=>Nat.blt r n
 | .mp r,n=>Nat.blt r n
 | .agg xs,n=>ltL xs n
 | .tup xs,n=>ltL xs n
 | .fn _ xs,n=>ltL xs n
 | .yld r,n=>Nat.blt r n
 | _,_=>true
def ltL:List SV→Nat→Bool
 | [],_=>true
 | x :: r,n=>SV.ltB x n && ltL r n
end
def b1z (n:Nat):List Slot→Bool
 | []=>true
 | s :: r=>s.sv.ltB n && b1z n r
def a0r (n:Nat):List MBlk→Bool
 | []=>true
 | .cells cs :: r=>ltL cs n && a0r n r
 | .old cs :: r=>ltL cs n && a0r n r
 | .stk cs _ :: r=>ltL cs n && a0r n r
 | .orows _ _ _ _ (some q) _ _ :: r=>Nat.blt q n && a0r n r
 | _ :: r=>a0r n r
def b2z (h:St):Bool:=b1z h.mem.length h.slots && a0r h.mem.length h.mem
def b70 (T:Tab) (s:St):List Oper→Option ((Int→Int→Bool) × Nat × Nat × List Oper)
 | o :: rest=>match o.op,o.guard,o.dst with
  | .next x false,none,some d=>match q7 T s.slots [] x with
   | some (.ptr r 0)=>match nth s.mem r,nth s.slots d with
    | some (.iterp left _),some _=>bif s8 (some d) s.slots then some (left,d,r,rest) else none
    | _,_=>none
   | _=>none
  | _,_,_=>none
 | []=>none
def b5j (T:Tab) (s:St):List Oper→Option (Nat × Nat × List Oper)
 | o :: rest=>bif y4 1000002 T.sure then(match o.op,o.guard,o.dst with
  | .binOp .eql t x y _,none,some d=>match q7 T s.slots [] x,q7 T s.slots [] y,g7 T.types t with
   | some (.sl _ n),some .nilsl,some ti=>match nth s.slots d with
    | some _=>bif Nat.beq ti.kind 3 && s8 (some d) s.slots then some (n,d,rest) else none
    | none=>none
   | _,_,_=>none
  | _,_,_=>none) else none
 | []=>none
def a2d (T:Tab) (ops rest:List Oper) (s:St) (K:Ex→St→Prop):Prop:=
 match a9n T ops rest s with
 | some (ps,s')=>a5v ps (K .normal s')
 | none=>False
def c5z (m:List MBlk):Gh→Option (List Prop × List MBlk)
 | .mv _=>some ([],m)
 | .take r ix=>match nth m r with
  | some (.orows e e' n none _ len gs)=>some ([ix < n],i4 m r (.orows e e' n (some ix) (some m.length) len gs) ++ [.oarr e' (len ix) (a01 gs ix)])
  | _=>none
 | .fresh r off e w=>match nth m r with
  | some (.cells cs)=>match nth cs off with
   | some .nilsl=>bif Nat.blt 0 w then some ([],i4 m r (.cells (i4 cs off (.sl m.length 0))) ++ [.oarr e 0 (a2f w .any)]) else none
   | _=>none
  | _=>none
 | .freeze r=>match nth m r with
  | some (.oarr _ n cols)=>some ([],i4 m r (.arr n cols))
  | _=>none
 | .cols r cs=>match nth m r with
  | some (.oarr e n cols)=>bif Nat.beq cs.length cols.length then some ([n=0],i4 m r (.oarr e 0 cs)) else none
  | _=>none
 | .give r=>match nth m r with
  | some (.orows e e' n (some ix) (some q) len gs)=>match nth m q with
   | some (.oarr e2 k cols)=>match a87 cols with
    | some gl=>bif Nat.beq e' e2 && Nat.beq gs.length cols.length then some ([len ix=k],i4 (i4 m r (.orows e e' n none none len (b0t ix gs gl))) q .gone) else none
    | none=>none
   | _=>none
  | _=>none
 | .frz r=>match nth m r with
  | some (.orows _ _ n none _ len gs)=>some ([],i4 m r (.arr n [.rows len gs]))
  | _=>none
 | .freshR r off e e'=>match nth m r with
  | some (.cells cs)=>match nth cs off with
   | some .nilsl=>some ([],i4 m r (.cells (i4 cs off (.sl m.length 0))) ++ [.orows e e' 0 none none (fun _=>0) [fun _ _=>0]])
   | _=>none
  | _=>none
def c26:List Gh→List MBlk→Option (List Prop × List MBlk)
 | [],m=>some ([],m)
 | g :: r,m=>match c5z m g with
  | some (ps,m')=>match c26 r m' with
   | some (qs,m2)=>some (ps ++ qs,m2)
   | none=>none
  | none=>none
mutual
def u9 (f:Nat→Nat):SV→SV
 | .ptr r o=>.ptr (f r) o
 | .pix r sz ix o=>.pix (f r) sz ix o
 | .sl r n=>.sl (f r) n
 | .sub r sz lo n=>.sub (f r) sz lo n
 | .mp r=>.mp (f r)
 | .yld r=>.yld (f r)
 | .agg xs=>.agg (a2k f xs)
 | .tup xs=>.tup (a2k f xs)
 | .fn g xs=>.fn g (a2k f xs)
 | x=>x
def a2k (f:Nat→Nat):List SV→List SV
 | []=>[]
 | x :: r=>u9 f x :: a2k f r
end
def mvF (r e i:Nat):Nat:=bif Nat.beq i r then e else i
def renO (f:Nat→Nat):Option Nat→Option Nat
 | some q=>some (f q)
 | none=>none
def b4r (f:Nat→Nat):MBlk→MBlk
 | .cells cs=>.cells (a2k f cs)
 | .old cs=>.old (a2k f cs)
 | .stk cs vs=>.stk (a2k f cs) vs
 | .orows e e' n h k len gs=>.orows e e' n h (renO f k) len gs
 | k=>k
def a59 (f:Nat→Nat):List MBlk→List MBlk
 | []=>[]
 | k :: r=>b4r f k :: a59 f r
def a4g (f:Nat→Nat):List Slot→List Slot
 | []=>[]
 | s :: r=>⟨s.ch,u9 f s.sv⟩ :: a4g f r
def c6l (gs:List Nat) (r:Nat) (s:St):Option St:=match nth s.mem r with
 | some k=>bif y4 r gs then none else some ⟨a4g (mvF r s.mem.length) s.slots,a59 (mvF r s.mem.length) (i4 s.mem r .gone) ++ [b4r (mvF r s.mem.length) k],s.dirty⟩
 | none=>none
def b8l (gs:List Nat):List Gh→St→Option St
 | [],s=>some s
 | .mv r :: l,s=>match c6l gs r s with
  | some s'=>b8l gs l s'
  | none=>none
 | _ :: l,s=>b8l gs l s
def b21 (T:Tab) (id:Nat) (s:St):Option (List Prop × St):=
 match g7 T.takes id with
 | none=>some ([],s)
 | some f=>match c26 (f s.slots s.mem) s.mem with
  | some (ps,m)=>match b8l (a0z T) (f s.slots s.mem) ⟨s.slots,m,s.dirty⟩ with
   | some s'=>some (ps,s')
   | none=>none
  | none=>none
def a7a (T:Tab) (sl:List Slot) (m:List MBlk):ResultVar→Option SV
 | .tmp a=>q7 T sl [] (.tmp a)
 | .cell a t=>match g7 T.types t,q7 T sl [] (.tmp a) with
  | some ti,some (.ptr r off)=>match nth m r with
   | some (.cells cs)=>loadAt ti cs off
   | _=>none
  | _,_=>none
def c7i (T:Tab) (sl:List Slot) (m:List MBlk) (rs:List ResultVar):Option SV:=
 match rs with
 | []=>some (.tup [])
 | [a]=>a7a T sl m a
 | [a,b]=>match a7a T sl m a,a7a T sl m b with
  | some x,some y=>some (.tup [x,y])
  | _,_=>none
 | [a,b,c]=>match a7a T sl m a,a7a T sl m b,a7a T sl m c with
  | some x,some y,some z=>some (.tup [x,y,z])
  | _,_,_=>none
 | _=>none
def c1e (T:Tab) (rs:List ResultVar) (R:SV→List MBlk→Prop):Ex→St→Prop
 | .exit _,_=>False
 | _,s=>match c7i T s.slots s.mem rs with
  | some v=>R v s.mem
  | none=>False
def b8y:Nat→List Slot
 | 0=>[]
 | n + 1=>⟨[],.dead⟩ :: b8y n
def a0k:List SV→Nat→List Slot
 | [],n=>b8y n
 | x :: r,n=>⟨[],x⟩ :: a0k r (n - 1)
def a82:List Slot→List SV
 | []=>[]
 | s :: r=>(match s.ch with | []=>s.sv | _=>.dead) :: a82 r
def a11:List SV→List Slot
 | []=>[]
 | x :: r=>⟨[],x⟩ :: a11 r
inductive CallT where
 | fn (f:Nat)
 | yl (r:Nat)
def c29 (T:Tab) (sl:List Slot) (o:Oper):Option (CallT × List SV):=
 match o.op with
 | .call cl=>match a3m T sl [] cl.callee,a2l T sl [] cl.args.toList with
  | some (f,ys),some vs=>match g7 T.inl f with
   | some _=>some (.fn f,vs ++ ys)
   | none=>none
  | none,some vs=>match cl.callee with
   | .value x=>match q7 T sl [] x with
    | some (.yld r)=>some (.yl r,vs)
    | _=>none
   | _=>none
  | _,_=>none
 | _=>none
def Tab.into (T:Tab) (J:Inl) (b:Nat):Tab:=⟨T.types,T.globals,T.calls,J.loops,T.callsB,(b,(none,0)) :: T.pins,J.takes,J.sure,T.inl,T.back,false⟩
def Tab.intoR (T:Tab) (J:Inl) (b:Nat) (x:Option Addr × Nat) (us:List Value) (cd:LupCd) (ps:Array Tmp) (assign body:Code):Tab:=⟨T.types,T.globals,T.calls,J.loops,T.callsB,(b,(none,0)) :: (b + 1,x) :: T.pins,J.takes,J.sure,T.inl,some ⟨b + 1,b,us,cd,ps,assign,body,T.loops,T.takes,T.sure⟩,false⟩
def Tab.rnd (T:Tab) (k:Back) (b:Nat):Tab:=⟨T.types,T.globals,T.calls,k.loops,T.callsB,(b,(none,0)) :: T.pins,k.takes,k.sure,T.inl,none,true⟩
def a6s (q:Nat) (w:Bool):List (Nat × Bool)→List (Nat × Bool)
 | []=>[]
 | (p,v) :: r=>bif Nat.beq p q then a6s q w r else(p,v) :: a6s q w r
def know (q:Nat) (w:Bool):Nat→List Slot→List Slot
 | _,[]=>[]
 | d,s :: r=>(bif b6l (q,!w) s.ch then⟨[],.dead⟩ else⟨a6s q w s.ch,bif Nat.beq d q then(bif w then .tt else .ff) else s.sv⟩) :: know q w (d + 1) r
def c1o:List (Nat × Bool)→List Slot→(Bool→List Slot→Prop)→Prop
 | [],sl,K=>K true sl
 | (q,w) :: r,sl,K=>c1o r sl (fun ok sl=>match ok with
  | false=>K false sl
  | true=>match nth sl q with
   | some ⟨[],.b x⟩=>(x=w→K true (know q w 0 sl))∧(x=(!w)→K false (know q (!w) 0 sl))
   | _=>False)
def a7d (T:Tab) (I:CallT→Nat→List SV→List MBlk→(SV→List MBlk→Prop)→Prop) (ops:List Oper):List Oper→St→(St→Prop)→Prop
 | [],s,K=>K ⟨clean s.slots,s.mem,s.dirty⟩
 | o :: rest,s,K=>match b5j T s [o] with
  | some (n,d,_)=>(n=0→a7d T I ops rest ⟨i4 s.slots d ⟨[],.tt⟩,s.mem,s.dirty⟩ K)∧a7d T I ops rest ⟨i4 s.slots d ⟨[],.ff⟩,s.mem,s.dirty⟩ K
  | none=>match opA T ops s.slots s.mem o with
   | some (ps,sl,m)=>a5v ps (a7d T I ops rest ⟨sl,m,s.dirty⟩ K)
   | none=>match opB T ops s.slots s.mem o with
    | some (ps,sl,m,d)=>a5v ps (a7d T I ops rest ⟨sl,m,d ++ s.dirty⟩ K)
    | none=>match a42 s.slots ops o.guard with
     | some (some c)=>bif b2k s.slots c c then c1o c s.slots (fun ok sl=>match ok with
      | false=>(match a58 sl o.dst ⟨[],.dead⟩ with
       | some sl'=>bif s8 o.dst sl then a7d T I ops rest ⟨sl',s.mem,s.dirty⟩ K else False
       | none=>False)
      | true=>match c29 T sl o with
       | some (f,vs)=>∀ us:List Value,I f s.mem.length vs (s.mem ++ [.stk (a82 sl) us]) (fun sv m'=>match nth m' s.mem.length with
        | some (.stk cs us')=>us'=us∧(match a58 (a11 cs) o.dst ⟨[],sv⟩ with
         | some sl'=>a7d T I ops rest ⟨sl',i4 m' s.mem.length .gone,s.dirty⟩ K
         | none=>False)
        | _=>False)
       | none=>(match b42 T sl s.mem o.op with
        | some b=>bif s8 o.dst sl && a1t b.kill (a0z T) then(match a58 (a15 b.kill sl) o.dst ⟨[],b.sv⟩ with
         | some sl'=>a5v b.pre (a7d T I ops rest ⟨sl',app (t4 (x6 b.kill s.mem) b.upd) b.new,b.upd.map (·.1) ++ s.dirty⟩ K)
         | none=>False) else False
        | none=>False)) else False
     | _=>False
def b54 (T:Tab) (I:CallT→Nat→List SV→List MBlk→(SV→List MBlk→Prop)→Prop) (ops:List Oper) (s:St) (K:St→Prop):Prop:=
 match b0n T ops ops s.slots s.mem with
 | (ps,sl,m,ls,r) =>
  let an:=u5 ops []
  bif a0c s.slots && z8 0 ops && a4z ops && a04 ops an 0 ls an && a3z ls.length (a12 ls.length an) then a5v ps (a7d T I ops r ⟨sl,m,s.dirty⟩ K) else False
def b4b (T:Tab) (I:CallT→Nat→List SV→List MBlk→(SV→List MBlk→Prop)→Prop) (ops:Array Oper) (s:St) (K:St→Prop):DT→List (Nat × Nat)→Prop
 | .leaf inv,ex=>bif b0b ops.toList inv (a6x inv) ex then(match a4n T (a0d ops.toList inv (a6x inv) ex).toArray s with
  | some x=>a5v x.1 (K x.2)
  | none=>b54 T I (a0d ops.toList inv (a6x inv) ex) s K) else False
 | .node x i l r,ex=>bif Nat.beq x i || !(Nat.blt x ops.toList.length) || !(Nat.blt i ops.toList.length) then False else b4b T I ops s K l (ex ++ [(x,i)])∧b4b T I ops s K r (ex ++ [(i,x)])
def regK (T:Tab) (I:CallT→Nat→List SV→List MBlk→(SV→List MBlk→Prop)→Prop) (draw:Bool) (id:Nat) (ops:Array Oper) (s:St) (K:St→Prop):Prop:=
 bif draw then(match d4x T id with
  | some t=>b4b T I ops s K t []
  | none=>match a7j T ops s with
   | some (x,y,z)=>a5v x.1 (K x.2)∧a5v y.1 (K y.2)∧a5v z.1 (K z.2)
   | none=>b54 T I ops.toList s K) else a7d T I ops.toList ops.toList s K
def b40:List Tmp→List SV→List SV→Option (List SV)
 | [],[],cs=>some cs
 | p :: ps,v :: vs,cs=>b40 ps vs (i4 cs p v)
 | _,_,_=>none
def a5g:List Oper→Bool
 | []=>true
 | o :: r=>(match o.op with | .defer _=>false | _=>true) && a5g r
def c62:Ex→LSt
 | .normal=>.ready
 | .ret=>.done .ret
 | .exit id=>.done (.exit id)
def jcV:Ex→SV
 | .normal=>.tt
 | _=>.ff
def jcK:LSt→Option Ex
 | .ready=>some .normal
 | .done .ret=>some .ret
 | .done (.exit id)=>some (.exit id)
 | .busy=>none
def vc:Tab→Nat→Nat→Code→St→(Ex→St→Prop)→Prop
 | _,0,_,_,_,_=>False
 | T,n + 1,bid,c,s,K=>match c with
  | .skip=>K .normal s
  | .label _=>K .normal s
  | .ret=>K .ret s
  | .exit id=>K (.exit id) s
  | .region id ops draw=>bif T.rmode then(match b21 T id s with
   | some (tps,s)=>a5v tps (bif a5g ops.toList then(bif draw then b54 T (fun _ _ _ _ _=>False) ops.toList s (fun s'=>K .normal s') else a7d T (fun _ _ _ _ _=>False) ops.toList ops.toList s (fun s'=>K .normal s')) else False)
   | none=>False) else match b21 T id s with
   | some (tps,s)=>a5v tps (match b70 T s ops.toList with
    | some (left,d,r,rest)=>bif draw then False else
       ((∀ a b,left a b=false)→a2d T ops.toList rest ⟨i4 s.slots d ⟨[],.tup [.ff]⟩,s.mem,s.dirty⟩ K) ∧
       (∀ a b,left a b=true→a2d T ops.toList rest ⟨i4 s.slots d ⟨[],.tup [.tt,.agg [.i .i64 a,.i .i64 b],.tt]⟩,i4 s.mem r (.iterp (fun x y=>left x y && !(x == a && y == b)) (some (a,b))),s.dirty⟩ K)
    | none=>match b5j T s ops.toList with
     | some (n,d,rest)=>bif draw then False else
       (n=0→a2d T ops.toList rest ⟨i4 s.slots d ⟨[],.tt⟩,s.mem,s.dirty⟩ K)∧a2d T ops.toList rest ⟨i4 s.slots d ⟨[],.ff⟩,s.mem,s.dirty⟩ K
     | none=>match(bif draw then a4n T ops s else bif y4 1000002 T.sure then none else a9n T ops.toList ops.toList s) with
      | some (ps,s')=>a5v ps (K .normal s')
      | none=>regK T (fun ct b vs m R=>match ct with
        | .fn f=>(match g7 T.inl f with
         | some J=>match J.fn.body with
          | some c=>vc (T.into J b) n 0 c ⟨a0k vs J.fn.ntmps,m,[]⟩ (c1e (T.into J b) J.fn.results.toList R)
          | none=>False
         | none=>False)
        | .yl r=>(match T.back with
         | some k=>(match nth m r,nth m k.s with
          | some (.lup .ready us cd),some (.stk cs us')=>bif Nat.beq r k.r then us=k.us∧cd=k.cd∧us'=k.us∧(match b40 k.ps.toList vs cs with
           | some cs'=>vc (T.rnd k b) n 0 k.assign ⟨a11 cs',m,[]⟩ (fun e s1=>match e with
            | .normal=>(match nth s1.mem r with
             | some (.lup .ready us cd)=>us=k.us∧cd=k.cd∧vc (T.rnd k b) n 0 k.body ⟨s1.slots,i4 s1.mem r (.lup .busy us cd),[]⟩ (fun e s2=>match nth s2.mem r with
              | some (.lup .busy us cd)=>us=k.us∧cd=k.cd∧R (jcV e) (i4 s2.mem r (.lup (c62 e) us cd))
              | _=>False)
             | _=>False)
            | _=>False)
           | none=>False) else False
          | _,_=>False)
         | none=>False)) draw id ops s (fun s'=>K .normal s'))
   | none=>False
  | .seq a b=>vc T n bid a s (fun e s'=>match e with
   | .normal=>vc T n bid b s' K
   | e=>K e s')
  | .cond x a b=>match q7 T s.slots [] x with
   | some .tt=>vc T n bid a s K
   | some .ff=>vc T n bid b s K
   | some (.b t)=>(t=true→vc T n bid a ⟨refine s.slots x .tt,s.mem,s.dirty⟩ K)∧(t=false→vc T n bid b ⟨refine s.slots x .ff,s.mem,s.dirty⟩ K)
   | _=>False
  | .block id body=>vc T n id body s (fun e s'=>match e with
   | .exit id'=>bif Nat.beq id' id then K .normal s' else K (.exit id') s'
   | e=>K e s')
  | .scope body=>bif T.rmode then False else vc T n bid body s K
  | .rangeFunc g ps assign body=>match T.rmode,T.back,q7 T s.slots [] g with
   | false,none,some (.fn f ys)=>(match g7 T.inl f with
    | some J=>match J.fn.body with
      | some c=>∀(us:List Value) (cd:LupCd) (x:Option Addr × Nat),vc (T.intoR J s.mem.length x us cd ps assign body) n 0 c ⟨a0k (.yld (s.mem.length + 1) :: ys) J.fn.ntmps,s.mem ++ [.stk (a82 s.slots) us,.lup .ready us cd],[]⟩
       (c1e (T.intoR J s.mem.length x us cd ps assign body) J.fn.results.toList (fun _ m'=>match nth m' s.mem.length,nth m' (s.mem.length + 1) with
        | some (.stk cs us'),some (.lup st us2 cd2)=>us'=us∧us2=us∧cd2=cd∧(match jcK st with
         | some e=>K e ⟨a11 cs,i4 (i4 m' s.mem.length .gone) (s.mem.length + 1) .gone,s.dirty⟩
         | none=>False)
        | _,_=>False))
      | none=>False
    | none=>False)
   | _,_,_=>False
  | .loop body=>match g7 T.loops bid with
   | some (PL:PLoop)=>∃ y:PL.Y,(∃ x,(PL.ann y).inv x∧a9o (a3y (a0z T) (PL.ann y).ren s).slots ((PL.ann y).slots x)∧b8j (a3y (a0z T) (PL.ann y).ren s).mem ((PL.ann y).mem x)) ∧
      ∀ x,(PL.ann y).inv x→(bif b2z (head (PL.ann y) (a0e body) (a3y (a0z T) (PL.ann y).ren s) x) then vc T n bid body (head (PL.ann y) (a0e body) (a3y (a0z T) (PL.ann y).ren s) x) (fun e s'=>match e with
       | .normal=>∃ x',(PL.ann y).inv x'∧(PL.ann y).mu x' < (PL.ann y).mu x∧a1v (head (PL.ann y) (a0e body) (a3y (a0z T) (PL.ann y).ren s) x').slots (a3y (a0z T) (PL.ann y).ren s').slots∧a61 (head (PL.ann y) (a0e body) (a3y (a0z T) (PL.ann y).ren s) x').mem (a3y (a0z T) (PL.ann y).ren s').mem
       | .ret=>K .ret s'
       | .exit id=>K (.exit id) s') else False)
   | none=>False
  | _=>False
@[irreducible] def n9 (T:Tab) (fn:Func) (args:List SV) (m:List MBlk) (R:SV→List MBlk→Prop):Prop:=
 match T.rmode,fn.body with
 | false,some c=>vc T 1000 0 c ⟨a0k args fn.ntmps,m,[]⟩ (c1e T fn.results.toList R)
 | _,_=>False
end
end Go.Proofs.YtaeeaniofljmnaaGreatDoor.Sx
