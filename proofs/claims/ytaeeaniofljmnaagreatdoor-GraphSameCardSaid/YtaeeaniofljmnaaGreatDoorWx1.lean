/-
  A part of the proof (Wx1).
-/
import Derived.WalkKit
import Derived.OrdersHeld
namespace Go.Proofs.YtaeeaniofljmnaaGreatDoor.Sx
set_option linter.unusedSimpArgs false
set_option linter.unusedVariables false
open Go Go.RowKit
abbrev z0a:=@Option.some.injEq
abbrev z0b:=@Nat.eq_of_beq_eq_true
abbrev z0c:=@List.getElem?_eq_some_iff
abbrev z0d:=@Bool.and_eq_true
abbrev z0e:=@of_decide_eq_true
abbrev z0f:=@cond_true
abbrev z0g:=@Prod.mk.injEq
abbrev z0h:=@List.cons_ne_nil
abbrev z0i:=@of_decide_eq_false
abbrev z0j:=@List.getElem?_eq_getElem
abbrev z0k:=@Option.map_eq_some_iff
abbrev z0l:=@cond_false
abbrev z0m:=@Array.getElem?_eq_some_iff
abbrev z0n:=@List.mem_append
abbrev z0o:=@implies_true
abbrev z0p:=@Result.andThen_ok
abbrev z0q:=@List.mem_cons
abbrev z0r:=@Nat.le_refl
abbrev z0s:=@Int.toNat_natCast
abbrev z0t:=@List.mem_singleton
abbrev z0u:=@forall_const
abbrev z0v:=@Bool.not_eq_true'
abbrev z0w:=@List.mem_cons_of_mem
abbrev z0x:=@Nat.blt_eq
abbrev z0y:=@Bool.true_and
abbrev z0z:=@List.getElem?_append_left
abbrev z1a:=@Int.toNat_of_nonneg
abbrev z1b:=@Sem.run_bind
abbrev z1c:=@Bool.eq_false_iff
abbrev z1d:=@List.length_append
abbrev z1f:=@List.mem_cons_self
abbrev z1g:=@List.length_cons
abbrev z1h:=@List.getElem?_append_right
abbrev z1i:=@Nat.zero_add
abbrev z1j:=@Bool.or_eq_false_iff
abbrev z1k:=@decide_eq_false_iff_not
abbrev z1l:=@List.getElem?_cons_succ
abbrev z1m:=@decide_eq_true_eq
abbrev z1n:=@List.append_nil
abbrev z1o:=@Value.slice.injEq
abbrev z1p:=@Nat.add_zero
abbrev z1q:=@Nat.lt_irrefl
abbrev z1r:=@Bool.and_true
abbrev z1s:=@List.getElem?_drop
abbrev z1t:=@Nat.le_of_ble_eq_true
abbrev z1u:=@Bool.or_eq_true
abbrev z1v:=@List.getElem_mem
abbrev z1w:=@List.getElem?_cons_zero
abbrev z1x:=@List.append_assoc
abbrev z1y:=@List.getElem?_take
abbrev z1z:=@Option.ne_none_iff_exists'
abbrev z2a:=@Nat.mul_le_mul_right
abbrev z2b:=@List.mem_map
abbrev z2c:=@List.all_eq_true
abbrev z2d:=@Nat.le_of_not_lt
abbrev z2e:=@List.map_cons
abbrev z2f:=@Addr.mk.injEq
abbrev z2g:=@Nat.lt_of_lt_of_le
abbrev z2h:=@MapKept.run_getObj_map
abbrev z2i:=@World.cell?_of_block
abbrev z2j:=@Bool.eq_iff_iff
abbrev z2k:=@List.length_map
abbrev z2m:=@Nat.not_lt_zero
abbrev z2n:=@List.cons.injEq
abbrev z2o:=@List.nodup_cons
abbrev z2p:=@Option.map_some
abbrev z2q:=@List.mem_range
abbrev z2r:=@Array.getElem?_eq_getElem
abbrev z2s:=@List.mem_iff_getElem
abbrev z2t:=@MapKept.run_checkKey
abbrev z2u:=@List.mem_of_getElem?
abbrev z2v:=@Nat.add_assoc
abbrev z2w:=@MapKept.run_keyThatStays
abbrev z2x:=@Nat.beq_refl
abbrev z2y:=@Nat.zero_le
abbrev z2z:=@Bool.not_false
abbrev z3a:=@Option.bind_eq_some_iff
abbrev z3b:=@Bool.not_eq_false'
abbrev z3c:=@Bool.false_eq_true
abbrev z3d:=@List.eq_nil_iff_forall_not_mem
abbrev z3e:=@Nat.ne_of_beq_eq_false
abbrev z3f:=@Nat.mul_le_mul
abbrev z3g:=@List.take_append_drop
abbrev z3h:=@Bool.and_false
abbrev z3i:=@Int.eq_ofNat_of_zero_le
abbrev z3j:=@Bool.not_true
abbrev z3l:=@Option.pure_def
abbrev z3m:=@Nat.succ_mul
abbrev z3n:=@List.getElem?_map
abbrev z3o:=@List.length_nil
abbrev z3p:=@List.length_singleton
abbrev z3q:=@Array.getElem?_toList
abbrev z3r:=@Sem.run_pure
abbrev z3s:=@Option.map_none
abbrev z3t:=@List.mem_iff_getElem?
abbrev z3u:=@List.take_length
abbrev z3v:=@Array.toList_map
abbrev z3w:=@Option.bind_eq_bind
abbrev z3y:=@List.length_drop
noncomputable section
inductive SV where
 | tt | ff | nilsl | nilptr | nilmap | dead
 | b (x:Bool)
 | i (k:IntKind) (n:Int)
 | ptr (r off:Nat)
 | pix (r sz ix off:Nat)
 | sl (r n:Nat)
 | sub (r sz lo n:Nat)
 | mp (r:Nat)
 | agg (xs:List SV)
 | tup (xs:List SV)
 | fn (f:Nat) (xs:List SV)
 | yld (r:Nat)
 | v (x:Value)
inductive JC where
 | ret
 | exit (id:Nat)
inductive LSt where
 | ready
 | busy
 | done (j:JC)
structure LupCd where
 ps:Array Tmp
 assign:Code
 body:Code
def LSt.st:LSt→LoopState
 | .ready=>.ready
 | .busy=>.busy
 | .done _=>.done
def JC.code:JC→Code
 | .ret=>.ret
 | .exit id=>.exit id
def LSt.pe:LSt→Option Code
 | .done j=>some j.code
 | _=>none
def c8n:LSt→LSt→Bool
 | .ready,.ready=>true
 | .busy,.busy=>true
 | .done .ret,.done .ret=>true
 | .done (.exit a),.done (.exit b)=>Nat.beq a b
 | _,_=>false
def a45 (st:LSt) (us:List Value) (cd:LupCd) (fn D:Nat):Loop:={ state:=st.st,pending:=st.pe,fn:=fn,tmps:=us.toArray,params:=cd.ps,assign:=cd.assign,body:=cd.body,defers:=D }
inductive Col where
 | int (k:IntKind) (g:Nat→Int)
 | bool (g:Nat→Bool)
 | rows (len:Nat→Nat) (gs:List (Nat→Nat→Int))
 | any
inductive MBlk where
 | cells (cs:List SV)
 | old (cs:List SV)
 | arr (n:Nat) (cols:List Col)
 | oarr (e n:Nat) (cols:List Col)
 | mapi (k:IntKind) (k':Option IntKind) (f:Int→Option Int)
 | mapp (f:Int→Int→Bool)
 | fmapp (f:Int→Int→Bool)
 | iterp (left:Int→Int→Bool) (cur:Option (Int × Int))
 | orows (e e' n:Nat) (hole link:Option Nat) (len:Nat→Nat) (gs:List (Nat→Nat→Int))
 | stk (cs:List SV) (vs:List Value)
 | lup (st:LSt) (us:List Value) (cd:LupCd)
 | gone
structure Slot where
 ch:List (Nat × Bool)
 sv:SV
structure St where
 slots:List Slot
 mem:List MBlk
 dirty:List Nat
inductive Ex where
 | normal | ret | exit (id:Nat)
structure TI where
 kind:Nat
 size:Nat
 bytes:Nat
 zero:List SV
 offs:List (Nat × Nat)
 elem:Nat
 len:Nat
 ik:Option IntKind
 eqk:Option (List (Option IntKind))
 fagg:List Bool:=[]
structure LAnn where
 X:Type
 inv:X→Prop
 slots:X→List (Nat × SV)
 mem:X→List (Nat × MBlk)
 mu:X→Nat
 kill:List Nat:=[]
 ren:List (Nat × Nat):=[]
structure PLoop where
 Y:Type
 ann:Y→LAnn
def PLoop.of (L:LAnn):PLoop:=⟨Unit,fun _=>L⟩
structure AR where
 pre:List Prop
 sv:SV
 new:List MBlk
structure BRes where
 pre:List Prop
 sv:SV
 kill:List Nat
 upd:List (Nat × MBlk)
 new:List MBlk:=[]
inductive Gh where
 | mv (r:Nat)
 | take (r ix:Nat)
 | fresh (r off e w:Nat)
 | freeze (r:Nat)
 | cols (r:Nat) (cs:List Col)
structure Inl where
 fn:Func
 loops:List (Nat × PLoop):=[]
 takes:List (Nat × (List Slot→List MBlk→List Gh)):=[]
 sure:List Nat:=[]
structure Back where
 r:Nat
 s:Nat
 us:List Value
 cd:LupCd
 ps:Array Tmp
 assign:Code
 body:Code
 loops:List (Nat × PLoop)
 takes:List (Nat × (List Slot→List MBlk→List Gh))
 sure:List Nat
structure Tab where
 types:List (Nat × TI)
 globals:List (Nat × Nat)
 calls:List (Nat × (List MBlk→List SV→Option AR))
 loops:List (Nat × PLoop)
 callsB:List (Nat × (List MBlk→List SV→Option BRes)):=[]
 pins:List (Nat × (Option Addr × Nat)):=[]
 takes:List (Nat × (List Slot→List MBlk→List Gh)):=[]
 sure:List Nat:=[]
 inl:List (Nat × Inl):=[]
 back:Option Back:=none
 rmode:Bool:=false
def a94:List (Nat × (Option Addr × Nat))→List Nat
 | []=>[]
 | p :: r=>p.1 :: a94 r
def a85:List (Nat × Nat)→List (Nat × (Option Addr × Nat))→List Nat
 | [],ps=>a94 ps
 | g :: r,ps=>g.2 :: a85 r ps
def a21 (T:Tab):List Nat:=a85 T.globals T.pins
universe u
section basics
variable {α:Type u}
def j9:List (Nat × α)→Nat→Option α
 | [],_=>none
 | (k,x) :: r,n=>bif Nat.beq k n then some x else j9 r n
def nth:List α→Nat→Option α
 | [],_=>none
 | x :: _,0=>some x
 | _ :: r,n + 1=>nth r n
def o7:List α→Nat→α→List α
 | [],_,_=>[]
 | _ :: r,0,y=>y :: r
 | x :: r,n + 1,y=>x :: o7 r n y
def b5w:Nat→List α→Option (List α)
 | 0,_=>some []
 | n + 1,x :: r=>(b5w n r).map (x :: ·)
 | _ + 1,[]=>none
def a1u:Nat→List α→List α
 | 0,l=>l
 | n + 1,_ :: r=>a1u n r
 | _ + 1,[]=>[]
def a58:List α→Nat→List α→Option (List α)
 | cs,0,[]=>some cs
 | _ :: r,0,v :: vs=>(a58 r 0 vs).map (v :: ·)
 | x :: r,n + 1,vs=>(a58 r n vs).map (x :: ·)
 | [],0,_ :: _=>none
 | [],_ + 1,_=>none
end basics
def a0l:Nat→List Nat→Bool
 | _,[]=>false
 | n,x :: r=>Nat.beq n x || a0l n r
def kEq:IntKind→IntKind→Bool
 | .i8,.i8=>true
 | .i16,.i16=>true
 | .i32,.i32=>true
 | .i64,.i64=>true
 | .u8,.u8=>true
 | .u16,.u16=>true
 | .u32,.u32=>true
 | .u64,.u64=>true
 | _,_=>false
def ofV:Value→SV
 | .bool true=>.tt
 | .bool false=>.ff
 | .int k n=>.i k n
 | .slice none 0 0=>.nilsl
 | .pointer none=>.nilptr
 | .map none=>.nilmap
 | x=>.v x
def bOf:SV→Option Bool
 | .tt=>some true
 | .ff=>some false
 | .b x=>some x
 | _=>none
def b6p:Col→Nat→SV
 | .int k g,j=>.i k (g j)
 | .bool g,j=>.b (g j)
 | .rows _ _,_=>.dead
 | .any,_=>.dead
def b45:List Col→Nat→List SV
 | [],_=>[]
 | c :: r,j=>b6p c j :: b45 r j
def b8c (x:Nat × Bool):List (Nat × Bool)→Bool
 | []=>false
 | y :: r=>(Nat.beq x.1 y.1 && (x.2 == y.2)) || b8c x r
def b5s:List (Nat × Bool)→List (Nat × Bool)→Bool
 | [],_=>true
 | x :: r,c=>b8c x c && b5s r c
def b6u (T:Tab) (sl:List Slot):Operand→Option Slot
 | .tmp t=>nth sl t
 | .const x=>some ⟨[],ofV x⟩
 | .global g=>match j9 T.globals g with
  | some r=>some ⟨[],.ptr r 0⟩
  | none=>none
 | .func f=>some ⟨[],.fn f []⟩
def t5 (T:Tab) (sl:List Slot) (c:List (Nat × Bool)) (x:Operand):Option SV:=
 match b6u T sl x with
 | some s=>bif b5s s.ch c then some s.sv else none
 | none=>none
def a3f (T:Tab) (sl:List Slot) (c:List (Nat × Bool)):List Operand→Option (List SV)
 | []=>some []
 | x :: r=>match t5 T sl c x,a3f T sl c r with
  | some v,some vs=>some (v :: vs)
  | _,_=>none
def a1m (T:Tab) (sl:List Slot) (c:List (Nat × Bool)):List (Nat × Operand)→Option (List (Nat × SV))
 | []=>some []
 | (k,x) :: r=>match t5 T sl c x,a1m T sl c r with
  | some v,some vs=>some ((k,v) :: vs)
  | _,_=>none
def a8l:SV→Bool
 | .tt | .ff | .nilsl | .nilptr | .nilmap | .b _ | .i _ _ | .ptr _ _ | .pix _ _ _ _ | .sl _ _ | .sub _ _ _ _ | .mp _ | .fn _ _ | .yld _=>true
 | _=>false
def cellsOf:SV→Option (List SV)
 | .agg xs=>some xs
 | x=>bif a8l x then some [x] else none
def a9d:List SV→Bool
 | []=>true
 | x :: r=>a8l x && a9d r
def c24 (op:BinOp) (k:IntKind) (x y:Int):Option (List Prop × SV):=
 match op with
 | .add=>some ([],.i k (k.wrap (x + y)))
 | .sub=>some ([],.i k (k.wrap (x - y)))
 | .mul=>some ([],.i k (k.wrap (x * y)))
 | .quo=>some ([y≠0],.i k (k.wrap (x.tdiv y)))
 | .rem=>some ([y≠0],.i k (x.tmod y))
 | .and=>some ([],.i k (bits .and k x y))
 | .or=>some ([],.i k (bits .or k x y))
 | .xor=>some ([],.i k (bits .xor k x y))
 | .andNot=>some ([],.i k (bits .andNot k x y))
 | .eql=>some ([],.b (x == y))
 | .neq=>some ([],.b (x != y))
 | .lss=>some ([],.b (decide (x < y)))
 | .leq=>some ([],.b (decide (x≤y)))
 | .gtr=>some ([],.b (decide (x > y)))
 | .geq=>some ([],.b (decide (x ≥ y)))
 | _=>none
def b19:Option IntKind→SV→SV→Option Bool
 | some k,.i k' a,.i k'' b=>bif kEq k k' && kEq k k'' then some (a == b) else none
 | none,x,y=>match bOf x,bOf y with
  | some a,some b=>some (a == b)
  | _,_=>none
 | _,_,_=>none
def a24:List (Option IntKind)→List SV→List SV→Option Bool
 | [],[],[]=>some true
 | [k],[x],[y]=>b19 k x y
 | k :: ks,x :: xs,y :: ys=>match b19 k x y,a24 ks xs ys with
  | some p,some q=>some (p && q)
  | _,_=>none
 | _,_,_=>none
def c8q (c:Bool) (x y:SV):Option SV:=
 match x,y with
 | .i k a,.i k' b=>bif kEq k k' then some (.i k (bif c then a else b)) else none
 | .tt,y=>match bOf y with
  | some b=>some (.b (c || b))
  | none=>none
 | x,.ff=>match bOf x with
  | some a=>some (.b (c && a))
  | none=>none
 | x,y=>match bOf x,bOf y with
  | some a,some b=>some (.b (bif c then a else b))
  | _,_=>none
def loadAt (ti:TI) (cs:List SV) (off:Nat):Option SV:=
 bif (Nat.beq ti.kind 1 || Nat.beq ti.kind 2) then(b5w ti.size (a1u off cs)).map .agg else nth cs off
def a1a (offs:Nat→Option (Nat × Nat)):List SV→List (Nat × SV)→Option (List SV)
 | cs,[]=>some cs
 | cs,(k,v) :: r=>match offs k,cellsOf v with
  | some o,some vs=>bif Nat.beq vs.length o.2 then(match a58 cs o.1 vs with
   | some cs'=>a1a offs cs' r
   | none=>none) else none
  | _,_=>none
def g8:List Int→Nat→Int
 | [],_=>0
 | [x],_=>x
 | x :: r,j=>bif Nat.beq j 0 then x else g8 r (j - 1)
def s9:List Bool→Nat→Bool
 | [],_=>false
 | [x],_=>x
 | x :: r,j=>bif Nat.beq j 0 then x else s9 r (j - 1)
def allI (k:IntKind):List SV→Option (List Int)
 | []=>some []
 | .i k' n :: r=>bif kEq k k' then(allI k r).map (n :: ·) else none
 | _=>none
def c7n:List SV→Option (List Bool)
 | []=>some []
 | x :: r=>match bOf x,c7n r with
  | some b,some l=>some (b :: l)
  | _,_=>none
def c45:List SV→Col
 | []=>.any
 | .i k n :: r=>match allI k (.i k n :: r) with
  | some l=>.int k (g8 l)
  | none=>.any
 | l=>match c7n l with
  | some l=>.bool (s9 l)
  | none=>.any
def a8n (cs:List SV) (sz:Nat):Nat→Nat→List SV
 | _,0=>[]
 | k,n + 1=>(match nth cs k with | some v=>v | none=>.dead) :: a8n cs sz (k + sz) n
def a3q (cs:List SV) (sz len:Nat):Nat→Nat→List Col
 | _,0=>[]
 | k,n + 1=>c45 (a8n cs sz k len) :: a3q cs sz len (k + 1) n
def b5g (z:List SV):Nat→List SV
 | 0=>[]
 | n + 1=>z ++ b5g z n
def a1o {α:Type}:Nat→α→List α
 | 0,_=>[]
 | n + 1,x=>x :: a1o n x
def bin (T:Tab) (t:Nat) (op:BinOp) (x y:SV):Option (List Prop × SV):=
 match x,y with
 | .i k a,.i k' b=>match op with
  | .shl=>some ([0≤b∧b≤(k.bits:Int)],.i k (k.wrap (a * 2 ^ b.toNat)))
  | .shr=>some ([0≤b∧b≤(k.bits:Int)],.i k (a / 2 ^ b.toNat))
  | op=>bif kEq k k' then c24 op k a b else none
 | .sl _ n,.nilsl=>match op,j9 T.types t with
  | .eql,some ti=>bif Nat.beq ti.kind 3 then some ([0 < n],.ff) else none
  | _,_=>none
 | .nilsl,.nilsl=>match op,j9 T.types t with
  | .eql,some ti=>bif Nat.beq ti.kind 3 then some ([],.tt) else none
  | _,_=>none
 | x,y=>match bOf x,bOf y,j9 T.types t with
  | some a,some b,some ti=>bif Nat.beq ti.kind 5 then(match op with
   | .eql=>some ([],.b (a == b))
   | .neq=>some ([],.b (!(a == b)))
   | _=>none) else none
  | _,_,_=>none
def b0p:Option SV→Option AR
 | some v=>some ⟨[],v,[]⟩
 | none=>none
def notB:SV→Option SV
 | .tt=>some .ff
 | .ff=>some .tt
 | .b x=>some (.b (!x))
 | _=>none
def a2s (T:Tab) (ts:List Nat):Bool:=
 match ts with
 | t :: _=>match j9 T.types t with
  | some ti=>Nat.beq ti.kind 3
  | none=>false
 | []=>false
def c02 (T:Tab) (ts:List Nat):Bool:=
 match ts with
 | t :: _=>match j9 T.types t with
  | some ti=>Nat.beq ti.kind 6
  | none=>false
 | []=>false
def c1l (s:ByteArray) (n:Int):Int:=match s[n.toNat]? with
 | some b=>(b.toNat:Int)
 | none=>0
noncomputable def b3w (f:Int→Option Int):Nat:=open Classical in if h:∃ l:List Int,l.Nodup∧∀ a,a∈l↔f a≠none then h.choose.length else 0
def c2k (T:Tab) (ts:List Nat):Bool:=
 match ts with
 | t :: _=>match j9 T.types t with
  | some ti=>Nat.beq ti.kind 4
  | none=>false
 | []=>false
noncomputable def b1i (T:Tab) (m:List MBlk) (b:Builtin) (ts:List Nat) (vs:List SV):Option AR:=
 match b,vs with
 | .len,[.mp r]=>match nth m r with
  | some (.mapi _ _ f)=>bif c2k T ts then some ⟨[],.i .i64 (b3w f),[]⟩ else none
  | _=>none
 | _,_=>none
def a2m (T:Tab) (b:Builtin) (ts:List Nat) (vs:List SV):Option AR:=
 match b,vs with
 | .len,[.sl _ n]=>bif a2s T ts then some ⟨[],.i .i64 n,[]⟩ else none
 | .len,[.sub _ _ _ n]=>bif a2s T ts then some ⟨[],.i .i64 n,[]⟩ else none
 | .len,[.nilsl]=>bif a2s T ts then some ⟨[],.i .i64 0,[]⟩ else none
 | .len,[.v (.string s)]=>bif c02 T ts then some ⟨[],.i .i64 s.size,[]⟩ else none
 | .max,[.i k x,.i k' y]=>bif kEq k k' then some ⟨[],.i k (if y > x then y else x),[]⟩ else none
 | .min,[.i k x,.i k' y]=>bif kEq k k' then some ⟨[],.i k (if y < x then y else x),[]⟩ else none
 | _,_=>none
def a1q:List (Nat→Nat→Int)→Nat→List Col
 | [],_=>[]
 | g :: r,ix=>.int .i64 (g ix) :: a1q r ix
def b8p (ti:TI) (cols:List Col) (ix off base:Nat):Option (SV × List MBlk):=
 bif Nat.beq ti.kind 3 then(match nth cols off with
  | some (.rows len gs)=>some (.sl base (len ix),[.arr (len ix) (a1q gs ix)])
  | _=>none) else bif Nat.beq ti.kind 1 && Nat.beq ti.size 2 && Nat.beq off 0 then(match cols with
  | [.int .i64 g,.rows len gs]=>some (.agg [.i .i64 (g ix),.sl base (len ix)],[.arr (len ix) (a1q gs ix)])
  | _=>none) else none
def b0h (ti:TI) (n:Nat) (cols:List Col) (sz ix off base:Nat):Option AR:=
 bif Nat.beq sz cols.length then(match b8p ti cols ix off base with
  | some p=>some ⟨[ix < n],p.1,p.2⟩
  | none=>match loadAt ti (b45 cols ix) off with
   | some v=>some ⟨[ix < n],v,[]⟩
   | none=>none) else none
def a6s:MBlk→Option (Nat × List Col)
 | .arr n cols=>some (n,cols)
 | .oarr _ n cols=>some (n,cols)
 | _=>none
def c30:MBlk→Bool
 | .oarr _ _ _=>true
 | _=>false
def b9c (m:List MBlk) (te:TI) (v:SV) (lo hi:Option SV):Option AR:=
 match v with
 | .sl r n=>match nth m r with
  | some kq=>match a6s kq with
   | some (n',_)=>match lo,hi with
    | none,none=>some ⟨[n=n'],.sub r te.size 0 n,[]⟩
    | some (.i _ l),none=>some ⟨[n=n',0≤l,l≤n],.sub r te.size l.toNat (n - l.toNat),[]⟩
    | none,some (.i _ b)=>bif c30 kq then none else some ⟨[n=n',0≤b,b≤n],.sub r te.size 0 b.toNat,[]⟩
    | some (.i _ l),some (.i _ b)=>some ⟨[n=n',0≤l,l≤b,b≤n],.sub r te.size l.toNat (b.toNat - l.toNat),[]⟩
    | _,_=>none
   | none=>none
  | none=>none
 | _=>none
def z8:Option Int→Int
 | some v=>v
 | none=>0
def isS:Option Int→Bool
 | some _=>true
 | none=>false
def zz (a:Int):Nat:=match a with
 | .ofNat n=>2 * n
 | .negSucc n=>2 * n + 1
def pk (a b:Int):Int:=(((zz a + zz b) * (zz a + zz b) + zz a:Nat):Int)
def a3t (T:Tab) (t:Nat):Option (IntKind × Option IntKind):=
 match j9 T.types t with
 | some ti=>bif Nat.beq ti.kind 4 then(match j9 T.types ti.elem,j9 T.types ti.len with
  | some tk,some tv=>match tk.ik,tv.ik,tv.zero with
   | some k,some k',[.i q (.ofNat 0)]=>bif Nat.beq tk.kind 0 && Nat.beq tv.kind 0 && kEq q k' && !(kEq k .i8) then some (k,some k') else none
   | some k,none,[.ff]=>bif Nat.beq tk.kind 0 && Nat.beq tv.kind 5 && !(kEq k .i8) then some (k,none) else none
   | none,some k',[.i q (.ofNat 0)]=>match tk.eqk with
    | some [some .i64,some .i64]=>bif Nat.beq tk.kind 1 && Nat.beq tv.kind 0 && kEq q k' then some (.i8,some k') else none
    | _=>none
   | _,_,_=>none
  | _,_=>none) else none
 | none=>none
def oEq:Option IntKind→Option IntKind→Bool
 | some k,some k'=>kEq k k'
 | none,none=>true
 | _,_=>false
def svV:Option IntKind→Int→SV
 | some k,v=>.i k v
 | none,v=>.b (v != 0)
def c1v:Option IntKind→SV→Option Int
 | some k,.i q v=>bif kEq k q then some v else none
 | none,x=>match bOf x with
  | some b=>some (bif b then 1 else 0)
  | none=>none
 | _,_=>none
def a36 (T:Tab) (t:Nat):Bool:=
 match j9 T.types t with
 | some ti=>bif Nat.beq ti.kind 4 then(match j9 T.types ti.elem,j9 T.types ti.len with
  | some tk,some tv=>match tk.eqk,tv.zero with
   | some [some .i64,some .i64],[.ff]=>Nat.beq tk.kind 2 && Nat.beq tk.len 2 && Nat.beq tv.kind 5
   | _,_=>false
  | _,_=>false) else false
 | none=>false
def b90:SV→Option (Int × Int)
 | .agg [.i .i64 a,.i .i64 b]=>some (a,b)
 | _=>none
def b0q:MBlk→Option (Int→Int→Bool)
 | .mapp f=>some f
 | .fmapp f=>some f
 | _=>none
def a7b (T:Tab) (sl:List Slot) (c:List (Nat × Bool)):Option Operand→Option (Option SV)
 | none=>some none
 | some x=>match t5 T sl c x with
  | some v=>some (some v)
  | none=>none
def b3k:SV→Col
 | .ff=>.bool (fun _=>false)
 | .i k n=>.int k (fun _=>n)
 | .nilsl=>.rows (fun _=>0) []
 | _=>.any
def a3x:List SV→List Col
 | []=>[]
 | z :: r=>b3k z :: a3x r
def b8q (e:Nat) (te:TI) (n:Nat):MBlk:=
 match te.zero with
 | [.nilsl]=>bif Nat.blt 0 te.len then .orows e te.elem n none none (fun _=>0) (a1o te.len (fun _ _=>0)) else .oarr e n (a3x te.zero)
 | _=>.oarr e n (a3x te.zero)
def c7v (m:List MBlk) (r:Nat) (y:Operand):Option Nat:=
 match nth m r,y with
 | some (.cells _),.const (.int _ (.ofNat k))=>some k
 | some (.old _),.const (.int _ (.ofNat k))=>some k
 | _,_=>none
def a4i (T:Tab) (sl:List Slot) (c:List (Nat × Bool)):Callee→Option (Nat × List SV)
 | .value x=>match t5 T sl c x with
  | some (.fn f xs)=>some (f,xs)
  | _=>none
 | _=>none
def c4a (ti:TI) (xs:List SV) (k:Nat):Option SV:=
 match nth ti.offs k,nth ti.fagg k with
 | some o,some true=>(b5w o.2 (a1u o.1 xs)).map .agg
 | some o,some false=>bif Nat.beq o.2 1 then nth xs o.1 else none
 | _,_=>none
def d70:List SV→Bool
 | []=>true
 | .sl _ _ :: _=>false
 | _ :: r=>d70 r
def c09 (T:Tab):Bool:=a0l 1000000 T.sure
def b1x (T:Tab) (sl:List Slot) (m:List MBlk) (c:List (Nat × Bool)) (t len:Nat) (ps:Array (Nat × Operand)):Option AR:=
 bif c09 T then(match j9 T.types t,a1m T sl c ps.toList with
  | some ti,some [(0,.sl q n)]=>match j9 T.types ti.elem with
   | some te=>bif Nat.beq len 1 && Nat.beq ti.kind 3 && Nat.beq te.kind 3 && Nat.beq te.size 1 && Nat.beq te.zero.length 1 && Nat.blt q m.length then
     some ⟨[],.sl m.length 1,[.orows ti.elem te.elem 1 (some 0) (some q) (fun _=>n) [fun _ _=>0]]⟩ else none
   | none=>none
  | _,_=>none) else none
def a8d (T:Tab) (sl:List Slot) (m:List MBlk) (c:List (Nat × Bool)) (t:Nat) (x:Operand) (lo hi:Option Operand):Option AR:=
 bif a0l 1000001 T.sure then(match j9 T.types t,t5 T sl c x,lo,a7b T sl c hi with
  | some ti,some (.sl r n),none,some (some (.i _ b))=>match j9 T.types ti.elem,nth m r with
   | some te,some (.arr n' cols)=>bif Nat.beq ti.kind 3 && Nat.beq te.size cols.length then some ⟨[n=n',0≤b,b≤n],.sl m.length b.toNat,[.arr b.toNat cols]⟩ else none
   | _,_=>none
  | _,_,_,_=>none) else none
def t9 (T:Tab) (sl:List Slot) (m:List MBlk) (c:List (Nat × Bool)) (oty:Nat) (op:Op):Option AR:=
 match op with
 | .move x=>b0p (t5 T sl c x)
 | .assign x=>match t5 T sl c x with
   | some .nilsl=>match j9 T.types oty with
    | some ti=>bif Nat.beq ti.kind 3 && Nat.ble 1 ti.len then some ⟨[],.sl m.length 0,[.oarr ti.elem 0 (a1o ti.len .any)]⟩ else some ⟨[],.nilsl,[]⟩
    | none=>some ⟨[],.nilsl,[]⟩
   | r=>b0p r
 | .pick (.tmp q) x y=>match t5 T sl c (.tmp q) with
   | some .tt=>b0p (t5 T sl c x)
   | some .ff=>b0p (t5 T sl c y)
   | some (.b cb)=>match t5 T sl ((q,true) :: c) x,t5 T sl ((q,false) :: c) y with
    | some vx,some vy=>b0p (c8q cb vx vy)
    | _,_=>none
   | _=>none
 | .alloc t=>match j9 T.types t with
   | some ti=>match ti.zero with
    | []=>none
    | z=>some ⟨[],.ptr m.length 0,[.cells z]⟩
   | none=>none
 | .box _ x=>match t5 T sl c x with
   | some v=>match cellsOf v with
    | some cs=>some ⟨[],.ptr m.length 0,[.cells cs]⟩
    | none=>none
   | none=>none
 | .build t ps=>match j9 T.types t,a1m T sl c ps.toList with
   | some ti,some vs=>bif Nat.beq ti.kind 1 && !ti.zero.isEmpty then b0p ((a1a (nth ti.offs) ti.zero vs).map .agg) else
     (bif Nat.beq ti.kind 2 && !ti.zero.isEmpty then(match j9 T.types ti.elem with
      | some te=>b0p ((a1a (fun k=>bif Nat.blt k ti.len then some (k * te.size,te.size) else none) ti.zero vs).map .agg)
      | none=>none) else none)
   | _,_=>none
 | .buildSlice t len ps=>match b1x T sl m c t len ps with
  | some ar=>some ar
  | none=>match j9 T.types t,a1m T sl c ps.toList with
   | some ti,some vs=>match j9 T.types ti.elem with
    | some te=>bif Nat.beq ti.kind 3 && Nat.ble (len * te.size) 1000 && Nat.ble 1 te.size && Nat.beq te.zero.length te.size && !(Nat.beq te.kind 3 && Nat.ble 1 len) then
      (match a1a (fun k=>bif Nat.blt k len then some (k * te.size,te.size) else none) (b5g te.zero len) vs with
      | some cs=>bif d70 cs then some ⟨[],.sl m.length len,[.oarr ti.elem len (a3q cs te.size len 0 te.size)]⟩ else none
      | none=>none) else none
    | none=>none
   | _,_=>none
 | .load t x=>match j9 T.types t,t5 T sl c x with
   | some ti,some (.ptr r off)=>match nth m r with
    | some (.cells cs)=>b0p (loadAt ti cs off)
    | some (.old cs)=>b0p (loadAt ti cs off)
    | _=>none
   | some ti,some (.pix r sz ix off)=>match nth m r with
    | some (.arr n cols)=>b0h ti n cols sz ix off m.length
    | some (.oarr _ n cols)=>b0h ti n cols sz ix off m.length
    | some (.orows _ e' n (some h) (some q) len _)=>bif Nat.beq ti.kind 3 && Nat.beq sz 1 && Nat.beq off 0 && Nat.beq ti.elem e' then some ⟨[ix < n,ix=h],.sl q (len h),[]⟩ else none
    | _=>none
   | _,_=>none
 | .slice t x lo hi none=>match a8d T sl m c t x lo hi with
  | some ar=>some ar
  | none=>match j9 T.types t,t5 T sl c x,a7b T sl c lo,a7b T sl c hi with
   | some ti,some v,some lo,some hi=>match j9 T.types ti.elem with
    | some te=>bif Nat.beq ti.kind 3 then b9c m te v lo hi else none
    | none=>none
   | _,_,_,_=>none
 | .makeMap t none=>match a3t T t with
   | some (k,k')=>some ⟨[],.mp m.length,[.mapi k k' (fun _=>none)]⟩
   | none=>bif a36 T t then some ⟨[],.mp m.length,[.mapp (fun _ _=>false)]⟩ else none
 | .lookup t x y ok=>match t5 T sl c x,t5 T sl c y with
   | some (.mp r),some (.i q n)=>match a3t T t,nth m r with
    | some (k,k'),some (.mapi k2 k2' f)=>bif kEq k k2 && oEq k' k2' && kEq k q && !(kEq k .i8) then some ⟨[],bif ok then .tup [svV k' (z8 (f n)),.b (isS (f n))] else svV k' (z8 (f n)),[]⟩ else none
    | _,_=>none
   | some (.mp r),some v=>match b90 v,nth m r with
    | some (p,q),some (.mapi k2 k2' f)=>match a3t T t with
     | some (k,k')=>bif kEq k k2 && oEq k' k2' && kEq k .i8 then some ⟨[],bif ok then .tup [svV k' (z8 (f (pk p q))),.b (isS (f (pk p q)))] else svV k' (z8 (f (pk p q))),[]⟩ else none
     | none=>none
    | some (p,q),some k=>match b0q k with
     | some f=>bif a36 T t && !ok then some ⟨[],.b (f p q),[]⟩ else none
     | none=>none
    | _,_=>none
   | _,_=>none
 | .makeSlice t x y=>match j9 T.types t,t5 T sl c x,t5 T sl c y with
   | some ti,some (.i _ l),some (.i _ d)=>match j9 T.types ti.elem with
    | some te=>bif Nat.beq ti.kind 3 && Nat.ble 1 te.size && Nat.beq te.zero.length te.size then
      (match x with
      | .const (.int _ (.ofNat 0))=>some ⟨[0≤d,(te.bytes:Int) * d≤281474976710656,d≤9223372036854775807],.sl m.length 0,[.oarr ti.elem 0 (a1o te.size .any)]⟩
      | _=>some ⟨[0≤l,d=l,(te.bytes:Int) * l≤281474976710656,l≤9223372036854775807],.sl m.length l.toNat,[b8q ti.elem te l.toNat]⟩) else none
    | none=>none
   | _,_,_=>none
 | .binOp op t x y _=>match t5 T sl c x,t5 T sl c y with
   | some (.agg a),some (.agg b)=>match j9 T.types t with
    | some ti=>match ti.eqk with
     | some ks=>match a24 ks a b,op with
      | some z,.eql=>some ⟨[],.b z,[]⟩
      | some z,.neq=>some ⟨[],.b (!z),[]⟩
      | _,_=>none
     | none=>none
    | none=>none
   | some a,some b=>match bin T t op a b with
    | some (p,v)=>some ⟨p,v,[]⟩
    | none=>none
   | _,_=>none
 | .unOp op _ x=>match op,t5 T sl c x with
   | .not,some v=>b0p (notB v)
   | .neg,some (.i k n)=>some ⟨[],.i k (k.wrap (0 - n)),[]⟩
   | _,_=>none
 | .fieldAddr t x k=>match j9 T.types t with
   | some ti=>bif Nat.beq ti.kind 1 then(match nth ti.offs k,t5 T sl c x with
    | some o,some (.ptr r off)=>bif Nat.beq o.2 0 then none else some ⟨[],.ptr r (off + o.1),[]⟩
    | some o,some (.pix r sz ix off)=>bif Nat.beq o.2 0 then none else some ⟨[],.pix r sz ix (off + o.1),[]⟩
    | _,_=>none) else none
   | none=>none
 | .indexAddr t x y=>match j9 T.types t,t5 T sl c x,t5 T sl c y with
   | some ti,some v,some (.i _ n)=>match j9 T.types ti.elem with
    | some te=>match v with
     | .ptr r off=>match c7v m r y with
      | some k=>bif Nat.beq ti.kind 2 && Nat.blt k ti.len && Nat.beq te.size 1 then some ⟨[],.ptr r (off + k),[]⟩ else none
      | none=>bif Nat.beq ti.kind 2 && Nat.beq off 0 then some ⟨[0≤n∧n < ti.len],.pix r te.size n.toNat 0,[]⟩ else none
     | .sl r len=>bif Nat.beq ti.kind 3 then some ⟨[0≤n∧n < len],.pix r te.size n.toNat 0,[]⟩ else none
     | .sub r sz lo len=>bif Nat.beq ti.kind 3 && Nat.beq sz te.size then some ⟨[0≤n∧n < len],.pix r sz (lo + n.toNat) 0,[]⟩ else none
     | .pix r sz ix off=>match y with
      | .const (.int _ (.ofNat k))=>bif Nat.beq ti.kind 2 && Nat.blt k ti.len && Nat.beq te.size 1 then some ⟨[],.pix r sz ix (off + k),[]⟩ else none
      | _=>none
     | _=>none
    | none=>none
   | _,_,_=>none
 | .index t x y=>match j9 T.types t,t5 T sl c x,t5 T sl c y with
   | some ti,some (.v (.string s)),some (.i _ n)=>bif Nat.beq ti.kind 6 then some ⟨[0≤n∧n < s.size],.i .u8 (c1l s n),[]⟩ else none
   | _,_,_=>none
 | .convert s d x=>match j9 T.types s,j9 T.types d,t5 T sl c x with
   | some _,some ti,some (.i _ n)=>match ti.ik with
    | some k=>bif Nat.beq ti.kind 0 then some ⟨[],.i k (k.wrap n),[]⟩ else none
    | none=>none
   | _,_,_=>none
 | .extract x k=>match t5 T sl c x with
   | some (.tup xs)=>b0p (nth xs k)
   | _=>none
 | .makeFunc (.func f) fs xs=>match fs.toList,a3f T sl c xs.toList with
   | [],some vs=>some ⟨[],.fn f vs,[]⟩
   | _,_=>none
 | .entry x=>match t5 T sl c x with
   | some (.ptr r 0)=>match nth m r with
    | some (.iterp _ (some (a,b)))=>some ⟨[],.tup [.agg [.i .i64 a,.i .i64 b],.tt],[]⟩
    | _=>none
   | _=>none
 | .field t x k=>match j9 T.types t,t5 T sl c x with
   | some ti,some (.agg xs)=>bif Nat.beq ti.kind 1 then b0p (c4a ti xs k) else none
   | _,_=>none
 | .call cl=>match cl.callee with
   | .builtin b=>match a3f T sl c cl.args.toList with
    | some vs=>match b1i T m b cl.argTypes.toList vs with
     | some ar=>some ar
     | none=>a2m T b cl.argTypes.toList vs
    | none=>none
   | _=>match a4i T sl c cl.callee,a3f T sl c cl.args.toList with
    | some (f,ys),some vs=>match j9 T.calls f with
     | some F=>F m (vs ++ ys)
     | none=>none
    | _,_=>none
 | _=>none
mutual
def SV.refs:SV→List Nat→Bool
 | .ptr r _,l=>a0l r l
 | .pix r _ _ _,l=>a0l r l
 | .sl r _,l=>a0l r l
 | .sub r _ _ _,l=>a0l r l
 | .mp r,l=>a0l r l
 | .agg xs,l=>a4o xs l
 | .tup xs,l=>a4o xs l
 | .fn _ xs,l=>a4o xs l
 | .yld r,l=>a0l r l
 | _,_=>false
def a4o:List SV→List Nat→Bool
 | [],_=>false
 | x :: r,l=>SV.refs x l || a4o r l
end
def a4s (l:List Nat) (x:SV):SV:=bif x.refs l then .dead else x
def a2e (l:List Nat):List Slot→List Slot
 | []=>[]
 | s :: r=>⟨s.ch,a4s l s.sv⟩ :: a2e l r
def t6 (l:List Nat):List SV→List SV
 | []=>[]
 | x :: r=>a4s l x :: t6 l r
def a5u (l:List Nat):Option Nat→Option Nat
 | none=>none
 | some q=>bif a0l q l then none else some q
def q7 (l:List Nat):MBlk→MBlk
 | .cells cs=>.cells (t6 l cs)
 | .old cs=>.old (t6 l cs)
 | .stk cs vs=>.stk (t6 l cs) vs
 | .orows e e' n h k len gs=>.orows e e' n h (a5u l k) len gs
 | k=>k
def a15 (l:List Nat):List MBlk→List MBlk
 | []=>[]
 | k :: r=>q7 l k :: a15 l r
def z6:List MBlk→List (Nat × MBlk)→List MBlk
 | m,[]=>m
 | m,(r,k) :: u=>z6 (o7 m r k) u
def b04:Col→Bool
 | .any=>false
 | _=>true
def a3i:List Col→Bool
 | []=>true
 | c :: r=>b04 c && a3i r
def b2m (n:Nat):List (Nat→Nat→Int)→List (Nat→Nat→Int)→List (Nat→Nat→Int)
 | g :: r,g' :: r'=>(fun j=>bif Nat.blt j n then g j else g' (j - n)) :: b2m n r r'
 | _,_=>[]
def b16 (n:Nat):Col→Col→Col
 | .rows len gs,.rows len' gs'=>bif Nat.beq gs.length gs'.length then .rows (fun j=>bif Nat.blt j n then len j else len' (j - n)) (b2m n gs gs') else .any
 | .any,.rows len' gs'=>bif Nat.beq n 0 then .rows len' gs' else .any
 | .int k g,.int k' g'=>bif kEq k k' then .int k (fun j=>bif Nat.blt j n then g j else g' (j - n)) else .any
 | .bool g,.bool g'=>.bool (fun j=>bif Nat.blt j n then g j else g' (j - n))
 | .any,.int k g=>bif Nat.beq n 0 then .int k g else .any
 | .any,.bool g=>bif Nat.beq n 0 then .bool g else .any
 | _,_=>.any
def a2r (n:Nat):List Col→List Col→List Col
 | c :: r,c' :: r'=>b16 n c c' :: a2r n r r'
 | _,_=>[]
def a35 (lo:Nat):Col→Col
 | .int k g=>.int k (fun j=>g (lo + j))
 | .bool g=>.bool (fun j=>g (lo + j))
 | .rows len gs=>.rows (fun j=>len (lo + j)) (dropG lo gs)
 | .any=>.any
where dropG (lo:Nat):List (Nat→Nat→Int)→List (Nat→Nat→Int)
 | []=>[]
 | g :: r=>(fun j=>g (lo + j)) :: dropG lo r
def a4j (lo:Nat):List Col→List Col
 | []=>[]
 | c :: r=>a35 lo c :: a4j lo r
def b3s:List Col→Option (List (Nat→Nat→Int))
 | []=>some []
 | .int .i64 g :: r=>match b3s r with
  | some l=>some ((fun _=>g) :: l)
  | none=>none
 | _=>none
def b24 (c:Col) (ix:Nat) (v:SV):Option Col:=
 match c,v with
 | .int k g,.i k' a=>bif kEq k k' then some (.int k (fun j=>bif Nat.beq j ix then a else g j)) else none
 | .bool g,v=>match bOf v with
  | some b=>some (.bool (fun j=>bif Nat.beq j ix then b else g j))
  | none=>none
 | _,_=>none
def a5x:List Col→Nat→Nat→List SV→Option (List Col)
 | cs,0,_,[]=>some cs
 | c :: r,0,ix,v :: vs=>match b24 c ix v,a5x r 0 ix vs with
  | some c',some r'=>some (c' :: r')
  | _,_=>none
 | c :: r,o + 1,ix,vs=>match a5x r o ix vs with
  | some r'=>some (c :: r')
  | none=>none
 | [],0,_,_ :: _=>none
 | [],_ + 1,_,_=>none
def b14:List Col→Option (List (Nat→Int))
 | []=>some []
 | .int .i64 g :: r=>match b14 r with
  | some l=>some (g :: l)
  | none=>none
 | _=>none
def b31 (ix:Nat):List (Nat→Nat→Int)→List (Nat→Int)→List (Nat→Nat→Int)
 | g :: r,h :: s=>(fun j=>bif Nat.beq j ix then h else g j) :: b31 ix r s
 | r,_=>r
def a9q (T:Tab) (sl:List Slot) (m:List MBlk) (c:List (Nat × Bool)) (t:Nat) (x y z:Operand):Option BRes:=
 match t5 T sl c x,t5 T sl c y,t5 T sl c z with
  | some (.mp r),some (.i q n),some z=>match a3t T t,nth m r with
   | some (k,k'),some (.mapi k2 k2' f)=>match c1v k' z with
    | some v=>bif kEq k k2 && oEq k' k2' && kEq k q && !(kEq k .i8) then some ⟨[],.v undef,[],[(r,.mapi k2 k2' (fun j=>bif j == n then some v else f j))],[]⟩ else none
    | none=>none
   | _,_=>none
  | some (.mp r),some v,some z=>match b90 v,nth m r,z with
   | some (p,q),some (.mapi k2 k2' f),z=>match a3t T t with
    | some (k,k')=>match c1v k' z with
     | some v=>bif kEq k k2 && oEq k' k2' && kEq k .i8 then some ⟨[],.v undef,[],[(r,.mapi k2 k2' (fun j=>bif j == pk p q then some v else f j))],[]⟩ else none
     | none=>none
    | none=>none
   | some (p,q),some (.mapp f),.tt=>bif a36 T t then some ⟨[],.v undef,[],[(r,.mapp (fun a b=>(a == p && b == q) || f a b))],[]⟩ else none
   | _,_,_=>none
  | _,_,_=>none
def u4 {α:Type} (a b c:α):Nat→α
 | 0=>a
 | 1=>b
 | _=>c
def a22 (T:Tab) (sl:List Slot) (m:List MBlk) (c:List (Nat × Bool)) (op:Op):Option BRes:=
 match op with
 | .store t x y=>match j9 T.types t,t5 T sl c x,t5 T sl c y with
   | some ti,some (.ptr r off),some v=>match nth m r,cellsOf v with
     | some (.cells cs),some vs=>bif Nat.beq vs.length ti.size && a9d vs then(match a58 cs off vs with
      | some cs'=>some ⟨[],.v undef,[],[(r,.cells cs')],[]⟩
      | none=>none) else none
     | _,_=>none
   | some ti,some (.pix r sz ix 0),some (.sl q k)=>match nth m r,nth m q with
     | some (.orows e e' n (some h) _ len gs),some (.oarr e2 n2 cols)=>match b14 cols with
      | some g=>bif Nat.beq ti.size 1 && Nat.beq sz 1 && Nat.beq e' e2 && Nat.beq gs.length cols.length && !(Nat.beq r q) then
        some ⟨[ix < n,ix=h,k=n2],.v undef,[],[(r,.orows e e' n none none (fun j=>bif Nat.beq j ix then k else len j) (b31 ix gs g)),(q,.gone)],[]⟩ else none
      | none=>none
     | _,_=>none
   | some ti,some (.pix r sz ix off),some v=>match nth m r,cellsOf v with
     | some (.oarr e n cols),some vs=>bif Nat.beq vs.length ti.size && a9d vs && Nat.beq sz cols.length && Nat.ble 1 vs.length then(match a5x cols off ix vs with
      | some cols'=>some ⟨[ix < n],.v undef,[],[(r,.oarr e n cols')],[]⟩
      | none=>none) else none
     | _,_=>none
   | _,_,_=>none
 | .mapUpdate t x y z=>a9q T sl m c t x y z
 | .insert t x y z=>a9q T sl m c t x y z
 | .buildSlice t (.succ .zero) ps=>match j9 T.types t,a1m T sl c ps.toList with
   | some ti,some [(0,.sl q n)]=>match j9 T.types ti.elem,nth m q with
     | some te,some (.oarr _ n' cols)=>match b3s cols with
      | some gs=>bif Nat.beq ti.kind 3 && Nat.beq te.kind 3 && Nat.beq te.size 1 && Nat.beq te.zero.length 1 then some ⟨[n=n'],.sl m.length 1,[],[(q,.arr n' cols)],[.oarr ti.elem 1 [.rows (fun _=>n) gs]]⟩ else none
      | none=>none
     | _,_=>none
   | _,_=>none
 | .slice t x none (some y) none=>match j9 T.types t,t5 T sl c x,t5 T sl c y with
   | some ti,some (.sl r n),some (.i _ b)=>match j9 T.types ti.elem,nth m r with
     | some te,some (.oarr e n' cols)=>bif Nat.beq ti.kind 3 && Nat.beq te.size cols.length then
       some ⟨[n=n',0≤b,b≤n],.sl r b.toNat,[],[(r,.oarr e b.toNat cols)],[]⟩ else none
     | _,_=>none
   | _,_,_=>none
 | .buildSlice t (.succ (.succ .zero)) ps=>match j9 T.types t,a1m T sl c ps.toList with
   | some ti,some [(0,.sl q0 n0),(1,.sl q1 n1)]=>match j9 T.types ti.elem,nth m q0,nth m q1 with
     | some te,some (.oarr _ k0 [.int .i64 g0]),some (.oarr _ k1 [.int .i64 g1]) =>
      bif Nat.beq ti.kind 3 && Nat.beq te.kind 3 && Nat.beq te.size 1 && Nat.beq te.zero.length 1 && !(Nat.beq q0 q1) then
       some ⟨[n0=k0,n1=k1],.sl m.length 2,[],[(q0,.arr k0 [.int .i64 g0]),(q1,.arr k1 [.int .i64 g1])],[.oarr ti.elem 2 [.rows (u4 n0 n1 n1) [u4 g0 g1 g1]]]⟩ else none
     | _,_,_=>none
   | _,_=>none
 | .buildSlice t (.succ (.succ (.succ .zero))) ps=>match j9 T.types t,a1m T sl c ps.toList with
   | some ti,some [(0,.sl q0 n0),(1,.sl q1 n1),(2,.sl q2 n2)]=>match j9 T.types ti.elem,nth m q0,nth m q1,nth m q2 with
     | some te,some (.oarr _ k0 [.int .i64 g0]),some (.oarr _ k1 [.int .i64 g1]),some (.oarr _ k2 [.int .i64 g2]) =>
      bif Nat.beq ti.kind 3 && Nat.beq te.kind 3 && Nat.beq te.size 1 && Nat.beq te.zero.length 1 && !(Nat.beq q0 q1) && !(Nat.beq q0 q2) && !(Nat.beq q1 q2) then
       some ⟨[n0=k0,n1=k1,n2=k2],.sl m.length 3,[],[(q0,.arr k0 [.int .i64 g0]),(q1,.arr k1 [.int .i64 g1]),(q2,.arr k2 [.int .i64 g2])],[.oarr ti.elem 3 [.rows (u4 n0 n1 n2) [u4 g0 g1 g2]]]⟩ else none
     | _,_,_,_=>none
   | some ti,some [(0,.agg [.i .i64 N0,.sl q0 n0]),(1,.agg [.i .i64 N1,.sl q1 n1]),(2,.agg [.i .i64 N2,.sl q2 n2])]=>match j9 T.types ti.elem,nth m q0,nth m q1,nth m q2 with
     | some te,some (.oarr _ k0 [.int .i64 g0,.int .i64 h0]),some (.oarr _ k1 [.int .i64 g1,.int .i64 h1]),some (.oarr _ k2 [.int .i64 g2,.int .i64 h2]) =>
      bif Nat.beq ti.kind 3 && Nat.beq te.size 2 && Nat.beq te.zero.length 2 && !(Nat.beq q0 q1) && !(Nat.beq q0 q2) && !(Nat.beq q1 q2) then
       some ⟨[n0=k0,n1=k1,n2=k2],.sl m.length 3,[],[(q0,.arr k0 [.int .i64 g0,.int .i64 h0]),(q1,.arr k1 [.int .i64 g1,.int .i64 h1]),(q2,.arr k2 [.int .i64 g2,.int .i64 h2])],[.oarr ti.elem 3 [.int .i64 (u4 N0 N1 N2),.rows (u4 n0 n1 n2) [u4 g0 g1 g2,u4 h0 h1 h2]]]⟩ else none
     | _,_,_,_=>none
   | _,_=>none
 | .range t x=>match t5 T sl c x with
   | some (.mp r)=>bif a36 T t then match nth m r with
     | some (.mapp f)=>some ⟨[],.ptr m.length 0,[],[(r,.fmapp f)],[.iterp f none]⟩
     | some (.fmapp f)=>some ⟨[],.ptr m.length 0,[],[],[.iterp f none]⟩
     | _=>none
    else none
   | _=>none
 | .call cl=>match a4i T sl c cl.callee with
  | some (f,ys)=>match j9 T.callsB f,a3f T sl c cl.args.toList with
   | some F,some vs=>F m (vs ++ ys)
   | _,_=>none
  | none=>match cl.callee,cl.args.toList,cl.argTypes.toList with
   | .builtin .append,[x,y],[t,t']=>match j9 T.types t,t5 T sl c x,t5 T sl c y with
     | some ti,some (.sl r n),some (.sl q k)=>match j9 T.types ti.elem,nth m r,nth m q with
      | some te,some (.oarr e n' cols),some kq=>match a6s kq with
       | some (k',cols')=>bif Nat.beq t t' && Nat.beq ti.kind 3 && Nat.beq e ti.elem && Nat.beq cols.length te.size && Nat.beq cols'.length te.size && Nat.beq te.zero.length te.size && Nat.blt 0 te.size && a3i cols' then
         some ⟨[n=n',k=k',(n + k) * te.bytes≤140737488355328,n + k≤9223372036854775807],.sl r (n + k),[r],[(r,.oarr e (n + k) (a2r n cols cols'))],[]⟩ else none
       | none=>none
      | _,_,_=>none
     | some ti,some (.sl r n),some (.sub q sz lo k)=>match j9 T.types ti.elem,nth m r,nth m q with
      | some te,some (.oarr e n' cols),some kq=>match a6s kq with
       | some (k',cols')=>bif Nat.beq t t' && Nat.beq ti.kind 3 && Nat.beq e ti.elem && Nat.beq cols.length te.size && Nat.beq cols'.length te.size && Nat.beq te.zero.length te.size && Nat.blt 0 te.size && a3i cols' && Nat.beq sz te.size then
         some ⟨[n=n',lo + k≤k',(n + k) * te.bytes≤140737488355328,n + k≤9223372036854775807],.sl r (n + k),[r],[(r,.oarr e (n + k) (a2r n cols (a4j lo cols')))],[]⟩ else none
       | none=>none
      | _,_,_=>none
     | _,_,_=>none
   | .builtin .clear,[x],[t]=>match j9 T.types t,t5 T sl c x with
     | some ti,some (.sub r sz lo n)=>match j9 T.types ti.elem,nth m r with
      | some te,some (.oarr e n' [.int .i64 g])=>match te.ik with
       | some .i64=>bif Nat.beq ti.kind 3 && Nat.beq te.kind 0 && Nat.beq sz 1 then
         some ⟨[lo + n=n'],.tup [],[],[(r,.oarr e n' [.int .i64 (fun j=>bif Nat.blt j lo then g j else 0)])],[]⟩ else none
       | _=>none
      | _,_=>none
     | _,_=>none
   | _,_,_=>none
 | _=>none
def a52 (sl:List Slot) (ops:List Oper):Option (Nat × Bool)→Option (Option (List (Nat × Bool)))
 | none=>some (some [])
 | some (j,w)=>match nth ops j with
  | some o=>match o.dst with
   | some d=>match nth sl d with
    | some s=>match s.sv,w with
     | .tt,true=>some (some s.ch)
     | .ff,false=>some (some s.ch)
     | .tt,false=>some none
     | .ff,true=>some none
     | .b _,_=>some (some ((d,w) :: s.ch))
     | _,_=>none
    | none=>none
   | none=>none
  | none=>none
def b2a (sl:List Slot):List (Nat × Bool)→Prop→Prop
 | [],p=>p
 | (q,w) :: r,p=>match nth sl q with
  | some s=>match s.sv with
   | .b x=>x=w→b2a sl r p
   | _=>b2a sl r p
  | none=>b2a sl r p
def b3z (sl:List Slot) (c:List (Nat × Bool)):List (Nat × Bool)→Bool
 | []=>true
 | (q,_) :: r=>(match nth sl q with | some s=>b5s s.ch c | none=>false) && b3z sl c r
def a6p (sl:List Slot) (dst:Option Nat) (s:Slot):Option (List Slot):=
 match dst with
 | some d=>match nth sl d with
  | some _=>some (o7 sl d s)
  | none=>none
 | none=>some sl
def a9h (d:Nat):List (Nat × Bool)→Bool
 | []=>true
 | (q,_) :: r=>!(Nat.beq q d) && a9h d r
def a8g (dst:Option Nat) (c:List (Nat × Bool)):Bool:=
 match dst with
 | some d=>a9h d c
 | none=>true
def w5 (dst:Option Nat):List Slot→Bool
 | []=>true
 | s :: r=>(match dst with | some d=>a9h d s.ch | none=>true) && w5 dst r
def b17 (s:Slot):Slot:=
 match s.ch with
 | []=>s
 | _=>⟨[],.dead⟩
def clean:List Slot→List Slot
 | []=>[]
 | s :: r=>b17 s :: clean r
def a7r (sl:List Slot) (c:List (Nat × Bool)):List Prop→List Prop
 | []=>[]
 | p :: r=>b2a sl c p :: a7r sl c r
def app (m new:List MBlk):List MBlk:=
 match new with
 | []=>m
 | _=>m ++ new
theorem b3r (m new:List MBlk):app m new=m ++ new:=by
 unfold app
 split
 ·simp
 ·rfl
def b7j (T:Tab) (dst:Option Nat) (v:SV):SV:=
 match dst with
 | some d=>bif a0l d T.sure then(match v with | .b _=>.tt | v=>v) else v
 | none=>v
def c1n (T:Tab) (dst:Option Nat) (v:SV) (ps:List Prop):List Prop:=
 match dst with
 | some d=>bif a0l d T.sure then(match v with | .b x=>(x=true) :: ps | _=>ps) else ps
 | none=>ps
def opA (T:Tab) (ops:List Oper) (sl:List Slot) (m:List MBlk) (o:Oper):Option (List Prop × List Slot × List MBlk):=
 match a52 sl ops o.guard with
 | some (some c)=>bif b3z sl c c && w5 o.dst sl && a8g o.dst c then(match t9 T sl m c o.type o.op with
  | some a=>match a6p sl o.dst ⟨c,b7j T o.dst a.sv⟩ with
   | some sl'=>some (a7r sl c (c1n T o.dst a.sv a.pre),sl',app m a.new)
   | none=>none
  | none=>none) else none
 | some none=>bif w5 o.dst sl then(match a6p sl o.dst ⟨[],.dead⟩ with
  | some sl'=>some ([],sl',m)
  | none=>none) else none
 | none=>none
def settle (T:Tab) (sl:List Slot) (m:List MBlk) (op:Op):Option (List Prop × List (Nat × MBlk)):=
 match op with
 | .call cl=>match cl.callee,cl.args.toList with
  | .builtin .append,[_,y]=>match t5 T sl [] y with
   | some (.sl q _)=>match nth m q with
    | some (.orows e2 _ n (some 0) (some p) len _)=>match nth m p with
     | some (.oarr _ j cols)=>match b3s cols with
      | some gs=>bif Nat.beq n 1 then some ([len 0=j],[(p,.arr j cols),(q,.oarr e2 1 [.rows (fun _=>j) gs])]) else none
      | none=>none
     | _=>none
    | _=>none
   | _=>none
  | _,_=>none
 | _=>none
def b7h (T:Tab) (sl:List Slot) (m:List MBlk) (op:Op):Option BRes:=
 match settle T sl m op with
 | some (ps,us)=>match a22 T sl (z6 m us) [] op with
  | some b=>some ⟨ps ++ b.pre,b.sv,b.kill,us ++ b.upd,b.new⟩
  | none=>none
 | none=>a22 T sl m [] op
def a3r (l:List Nat):List Nat→Bool
 | []=>true
 | r :: g=>!(a0l r l) && a3r l g
def opB (T:Tab) (ops:List Oper) (sl:List Slot) (m:List MBlk) (o:Oper):Option (List Prop × List Slot × List MBlk × List Nat):=
 match a52 sl ops o.guard with
 | some (some [])=>bif w5 o.dst sl then(match b7h T sl m o.op with
  | some b=>bif a3r b.kill (a21 T) then(match a6p (a2e b.kill sl) o.dst ⟨[],b.sv⟩ with
   | some sl'=>some (b.pre,sl',app (z6 (a15 b.kill m) b.upd) b.new,b.upd.map (·.1))
   | none=>none) else none
  | none=>none) else none
 | _=>none
def b0z (T:Tab) (ops:List Oper):List Oper→St→Option (List Prop × St)
 | [],s=>some ([],⟨clean s.slots,s.mem,s.dirty⟩)
 | o :: rest,s=>match opA T ops s.slots s.mem o with
  | some (ps,sl,m)=>match b0z T ops rest ⟨sl,m,s.dirty⟩ with
   | some (qs,s')=>some (ps ++ qs,s')
   | none=>none
  | none=>match opB T ops s.slots s.mem o with
   | some (ps,sl,m,d)=>match b0z T ops rest ⟨sl,m,d ++ s.dirty⟩ with
    | some (qs,s')=>some (ps ++ qs,s')
    | none=>none
   | none=>none
def a0i (sl:List Slot) (ops:List Oper) (o:Oper):List Nat:=
 o.op.operands.toList.filterMap (fun | .tmp t=>some t | _=>none) ++
 (match o.guard with
  | some (g,_)=>match nth ops g with
   | some og=>og.dst.toList
   | none=>[]
  | none=>[]) ++
 (match a52 sl ops o.guard with
  | some (some c)=>c.map (·.1)
  | _=>[])
def b1z (T:Tab) (ops:List Oper):List Oper→List Slot→List MBlk→List Prop × List Slot × List MBlk × List (List Nat) × List Oper
 | [],sl,m=>([],sl,m,[],[])
 | o :: rest,sl,m=>match opA T ops sl m o with
  | some (ps,sl',m')=>match b1z T ops rest sl' m' with
   | (qs,sl2,m2,ls,r)=>(ps ++ qs,sl2,m2,a0i sl ops o :: ls,r)
  | none=>([],sl,m,[],o :: rest)
def c3k (T:Tab) (ops:List Oper):List Oper→St→Option (List Prop × St)
 | [],s=>some ([],s)
 | o :: rest,s=>match opA T ops s.slots s.mem o with
  | some (ps,sl,m)=>match c3k T ops rest ⟨sl,m,s.dirty⟩ with
   | some (qs,s')=>some (ps ++ qs,s')
   | none=>none
  | none=>match opB T ops s.slots s.mem o with
   | some (ps,sl,m,d)=>match c3k T ops rest ⟨sl,m,d ++ s.dirty⟩ with
    | some (qs,s')=>some (ps ++ qs,s')
    | none=>none
   | none=>none
def a8u (acc:List Nat):List Edge→Nat
 | []=>0
 | e :: r=>bif Region.binds .any e then(1 <<< e.on) ||| (match nth acc e.on with | some x=>x | none=>0) ||| a8u acc r else a8u acc r
def x9:List Oper→List Nat→List Nat
 | [],acc=>acc
 | o :: r,acc=>x9 r (acc ++ [a8u acc o.after.toList])
def b07 (i:Nat):List Edge→Bool
 | []=>true
 | e :: r=>(!(Region.binds .any e) || Nat.blt e.on i) && b07 i r
def a0o:Nat→List Oper→Bool
 | _,[]=>true
 | i,o :: r=>b07 i o.after.toList && a0o (i + 1) r
def b4s (i ai t:Nat):Nat→List Oper→List Nat→Bool
 | j,o :: r,aj :: ar=>(bif Nat.beq j i then true else match o.dst with
   | some d=>bif Nat.beq d t then(bif Nat.blt j i then Nat.testBit ai j else Nat.testBit aj i) else true
   | none=>true) && b4s i ai t (j + 1) r ar
 | _,_,_=>true
def b0i (i ai:Nat) (ops:List Oper) (an:List Nat):List Nat→Bool
 | []=>true
 | t :: r=>b4s i ai t 0 ops an && b0i i ai ops an r
def a0t (ops:List Oper) (an:List Nat):Nat→List (List Nat)→List Nat→Bool
 | i,l :: ls,ai :: ar=>b0i i ai ops an l && a0t ops an (i + 1) ls ar
 | _,[],_=>true
 | _,_,[]=>false
def c47 (d:Nat):List Oper→Bool
 | []=>false
 | o :: r=>(match o.dst with | some e=>Nat.beq e d | none=>false) || c47 d r
def a62:List Oper→Bool
 | []=>true
 | o :: r=>(match o.dst with | some d=>!(c47 d r) | none=>true) && a62 r
def a4w:Nat→List Nat→Bool
 | _,[]=>true
 | b,a :: r=>Nat.beq (a &&& (1 <<< b - 1)) (1 <<< b - 1) && a4w (b + 1) r
def a11:List Slot→Bool
 | []=>true
 | s :: r=>s.ch.isEmpty && a11 r
def b82 (T:Tab) (ops:List Oper) (s:St):Option (List Prop × St):=
 match b1z T ops ops s.slots s.mem with
 | (ps,sl,m,ls,r) =>
  let an:=x9 ops []
  bif a11 s.slots && a0o 0 ops && a62 ops && a0t ops an 0 ls an && a4w ls.length (a1u ls.length an) then(match c3k T ops r ⟨sl,m,s.dirty⟩ with
   | some (qs,s')=>some (ps ++ qs,⟨clean s'.slots,s'.mem,s'.dirty⟩)
   | none=>none) else none
def b9i (T:Tab) (sl:List Slot) (m:List MBlk) (o:Oper):Option (List (Nat × Nat × SV)):=
 match o.guard with
 | some _=>none
 | none=>match o.op with
  | .move _=>some []
  | .indexAddr _ _ _=>some []
  | .fieldAddr _ _ _=>some []
  | .load t x=>match j9 T.types t,t5 T sl [] x with
   | some ti,some (.ptr r off)=>match nth m r with
    | some (.cells cs)=>match nth cs off with
     | some (.i k n)=>bif Nat.beq ti.kind 1 || Nat.beq ti.kind 2 then none else some [(r,off,.i k n)]
     | some (.sl q n)=>bif Nat.beq ti.kind 1 || Nat.beq ti.kind 2 then none else some [(r,off,.sl q n),(q,0,.dead)]
     | _=>none
    | some (.old _)=>some []
    | _=>none
   | some ti,some (.pix q _ _ _)=>match nth m q with
    | some (.arr _ _)=>bif Nat.beq ti.kind 3 || (Nat.beq ti.kind 1 && Nat.beq ti.size 2) then none else some []
    | _=>none
   | _,_=>none
  | .call cl=>match cl.callee,cl.args.toList with
   | .builtin .len,[x]=>match t5 T sl [] x with
    | some (.sl _ _)=>some []
    | _=>none
   | _,_=>none
  | .slice t x none (some y) none=>bif a0l 1000001 T.sure then none else(match j9 T.types t,t5 T sl [] x,t5 T sl [] y with
   | some _,some (.sl r _),some (.i _ _)=>match nth m r with
    | some (.arr _ _)=>some []
    | _=>none
   | _,_,_=>none)
  | _=>none
def c7e (T:Tab) (ops:List Oper):List Oper→List Slot→List MBlk→List (List (Nat × Nat × SV))
 | [],_,_=>[]
 | o :: rest,sl,m=>match b9i T sl m o,opA T ops sl m o with
  | some h,some (_,sl',m')=>h :: c7e T ops rest sl' m'
  | _,_=>[]
def b6t:List (List (Nat × Nat × SV))→List (Nat × Nat × SV)
 | []=>[]
 | h :: r=>h ++ b6t r
def a1v (n:Nat):Nat→Array Bool
 | 0=>Array.replicate n false
 | i + 1=>(a1v n i).setIfInBounds i true
def b5z (ops:Array Oper):Nat→Bool
 | 0=>true
 | i + 1=>Region.free .any ops (a1v ops.size i) i && (Region.ready .any ops (a1v ops.size i)).contains i && b5z ops i
def a5l (k L:Nat):Nat→List Nat→Bool
 | _,[]=>true
 | b,a :: r=>Nat.beq ((a ||| (1 <<< k - 1) ||| L) &&& (1 <<< b - 1)) (1 <<< b - 1) && a5l k L (b + 1) r
def b1h (o:Oper):Bool:=match o.guard with
 | some _=>false
 | none=>match o.op with
  | .move _=>true
  | .extract _ _=>true
  | _=>false
def b4o (n:Nat):Nat→List Oper→Nat
 | _,[]=>0
 | i,o :: r=>(bif b1h o && Nat.blt i n then 1 <<< i else 0) ||| b4o n (i + 1) r
def b13 (size L:Nat):Nat→Array Bool
 | 0=>Array.replicate size false
 | i + 1=>bif Nat.testBit L i then b13 size L i else(b13 size L i).setIfInBounds i true
def a80 (ops:Array Oper) (L0:Nat) (lst:Array Bool):Nat→Nat
 | 0=>0
 | j + 1=>(bif Nat.testBit L0 j && Region.free .any ops lst j then 1 <<< j else 0) ||| a80 ops L0 lst j
def d1f:Nat→List Nat→Nat
 | m,[]=>m
 | m,a :: r=>d1f (m &&& a) r
def b8j (ops:Array Oper) (n:Nat):Nat:=
 let L0:=b4o n 0 ops.toList &&& ((1 <<< n - 1) ^^^ d1f (1 <<< n - 1) (a1u n (x9 ops.toList [])))
 a80 ops L0 (b13 ops.size L0 n) n
def b50 (rs:List (Nat × Nat × SV)) (d:List Nat):Bool:=
 match rs with
 | []=>true
 | h :: r=>!(a0l h.1 d) && b50 r d
def b6j (T:Tab) (ops:List Oper) (rs:List (Nat × Nat × SV)):List Oper→St→Option (List Prop × St)
 | [],s=>some ([],s)
 | o :: rest,s=>match opA T ops s.slots s.mem o with
  | some (ps,sl,m)=>match b6j T ops rs rest ⟨sl,m,s.dirty⟩ with
   | some (qs,s')=>some (ps ++ qs,s')
   | none=>none
  | none=>match opB T ops s.slots s.mem o with
   | some (ps,sl,m,d)=>bif b50 rs d then(match b6j T ops rs rest ⟨sl,m,d ++ s.dirty⟩ with
    | some (qs,s')=>some (ps ++ qs,s')
    | none=>none) else none
   | none=>none
def Tab.pinned (T:Tab) (f:Nat→Option Addr × Nat) (rs:List (Nat × Nat × SV)):Tab:=⟨T.types,T.globals,T.calls,T.loops,T.callsB,rs.map (fun h=>(h.1,f h.1)) ++ T.pins,T.takes,T.sure,T.inl,T.back,T.rmode⟩
def b06 (T:Tab) (ops:Array Oper) (s:St):Option (List Prop × St):=
 match b1z T ops.toList ops.toList s.slots s.mem with
 | (ps,sl,m,ls,r) =>
  let an:=x9 ops.toList []
  let tk:=c7e T ops.toList ops.toList s.slots s.mem
  let rs:=b6t tk
  bif a11 s.slots && a0o 0 ops.toList && a62 ops.toList && a0t ops.toList an 0 ls an && a5l tk.length (b8j ops ls.length) ls.length (a1u ls.length an) && Nat.ble tk.length ls.length && Region.noSelect ops && b5z ops tk.length then
   (match b6j (T.pinned (fun _=>(none,0)) rs) ops.toList rs r ⟨sl,m,s.dirty⟩ with
   | some (qs,s')=>some (ps ++ qs,⟨clean s'.slots,s'.mem,s'.dirty⟩)
   | none=>none) else none
def a5t (T:Tab) (ops:Array Oper) (s:St):Option (List Prop × St):=
 match b82 T ops.toList s with
 | some x=>some x
 | none=>b06 T ops s
def a18 (l:List Nat) (i:Nat):Nat:=match nth l i with
 | some x=>x
 | none=>i
def b8s (pi:List Nat) (ex:List (Nat × Nat)) (i:Nat) (o:Oper):Oper:={ o with after:=((o.after.toList.map (fun e:Edge=>({ on:=a18 pi e.on,ground:=e.ground }:Edge))) ++ ((ex.filter (fun p:Nat × Nat=>Nat.beq p.2 i)).map (fun p:Nat × Nat=>({ on:=a18 pi p.1,ground:=.data }:Edge)))).toArray }
def a13 (ops:List Oper) (inv pi:List Nat) (ex:List (Nat × Nat)):List Oper:=inv.map (fun i=>match nth ops i with
 | some o=>b8s pi ex i o
 | none=>default)
def c4l (n:Nat) (inv pi:List Nat):Nat→Bool
 | 0=>true
 | i + 1=>Nat.blt (a18 pi i) n && Nat.beq (a18 inv (a18 pi i)) i && Nat.blt (a18 inv i) n && Nat.beq (a18 pi (a18 inv i)) i && c4l n inv pi i
def b36:List Oper→Bool
 | []=>true
 | o :: r=>(match o.guard with | none=>true | some _=>false) && b36 r
def d1v (n:Nat):List (Nat × Nat)→Bool
 | []=>true
 | p :: r=>Nat.blt p.1 n && Nat.blt p.2 n && d1v n r
def b1s (ops:List Oper) (inv pi:List Nat) (ex:List (Nat × Nat)):Bool:=Nat.beq inv.length ops.length && Nat.beq pi.length ops.length && c4l ops.length inv pi ops.length && b36 ops && d1v ops.length ex
def b0m (q t n:Nat):List Nat:=(List.range n).map (fun j=>bif Nat.blt j t then j else bif Nat.beq j t then q else bif Nat.ble j q then j - 1 else j)
def b8t (q t n:Nat):List Nat:=(List.range n).map (fun i=>bif Nat.blt i t then i else bif Nat.blt i q then i + 1 else bif Nat.beq i q then t else i)
def a8h (T:Tab) (ops:Array Oper) (s:St):Option ((List Prop × St) × (List Prop × St) × (List Prop × St)):=
 match b1z T ops.toList ops.toList s.slots s.mem with
 | (_,_,_,ls,_)=>splitAt3 T ops s ls.length (ls.length + 2) ops.toList.length
where splitAt3 (T:Tab) (ops:Array Oper) (s:St) (b q n:Nat):Option ((List Prop × St) × (List Prop × St) × (List Prop × St)):=
 bif b1s ops.toList (b0m q b n) (b8t q b n) [(q,b)] && b1s ops.toList (b0m q (b + 1) n) (b8t q (b + 1) n) [(b,q),(q,b + 1)] && b1s ops.toList (b0m q q n) (b8t q q n) [(b,q),(b + 1,q)] && !(Nat.beq q b) && !(Nat.beq q (b + 1)) then
  match a5t T (a13 ops.toList (b0m q b n) (b8t q b n) [(q,b)]).toArray s,a5t T (a13 ops.toList (b0m q (b + 1) n) (b8t q (b + 1) n) [(b,q),(q,b + 1)]).toArray s,a5t T (a13 ops.toList (b0m q q n) (b8t q q n) [(b,q),(b + 1,q)]).toArray s with
  | some x,some y,some z=>some (x,y,z)
  | _,_,_=>none
 else none
def a7k:List Prop→Prop→Prop
 | [],p=>p
 | q :: r,p=>q∧a7k r p
inductive DT where
 | leaf (inv:List Nat)
 | node (x i:Nat) (l r:DT)
def d10:Nat→List Nat→List Nat
 | 0,_=>[]
 | _,[]=>[]
 | n + 1,x :: r=>x :: d10 n r
def d6l:Nat→List Nat→Option (DT × List Nat)
 | 0,_=>none
 | f + 1,k :: r=>match k with
  | 0=>(match r with
   | n :: r=>some (.leaf (d10 n r),a1u n r)
   | []=>none)
  | _=>(match r with
   | x :: i :: r=>(match d6l f r with
    | some (a,r1)=>(match d6l f r1 with
     | some (b,r2)=>some (.node x i a b,r2)
     | none=>none)
    | none=>none)
   | _=>none)
 | _,[]=>none
def d57:List Gh→List Nat
 | .mv n :: r=>n :: d57 r
 | _=>[]
def d8d (T:Tab) (id:Nat):Option DT:=match j9 T.takes (1000000 + id) with
 | some f=>(match d6l 64 (d57 (f [] [])) with
  | some (t,_)=>some t
  | none=>none)
 | none=>none
def posN (x:Nat):List Nat→Nat
 | []=>0
 | y :: r=>bif Nat.beq x y then 0 else posN x r + 1
def a7z (inv:List Nat):List Nat:=(List.range inv.length).map (fun i=>posN i inv)
def a19:Code→List Nat
 | .region _ ops _=>ops.toList.filterMap (·.dst)
 | .seq a b=>a19 a ++ a19 b
 | .cond _ a b=>a19 a ++ a19 b
 | .block _ c=>a19 c
 | .loop c=>a19 c
 | .scope c=>a19 c
 | _=>[]
def refine(sl:List Slot) (x:Operand) (v:SV):List Slot:=
 match x with
 | .tmp t=>o7 sl t ⟨[],v⟩
 | _=>sl
mutual
def veq:SV→SV→Prop
 | .dead,_=>True
 | .tt,y=>match bOf y with | some b=>b=true | none=>False
 | .ff,y=>match bOf y with | some b=>b=false | none=>False
 | .b x,y=>match bOf y with | some b=>b=x | none=>False
 | .i k n,.i k' n'=>bif kEq k k' then n'=n else False
 | .nilsl,.nilsl=>True
 | .nilptr,.nilptr=>True
 | .nilmap,.nilmap=>True
 | .ptr r o,.ptr r' o'=>bif Nat.beq r r' && Nat.beq o o' then True else False
 | .pix r sz ix o,.pix r' sz' ix' o'=>bif Nat.beq r r' && Nat.beq sz sz' && Nat.beq o o' then ix'=ix else False
 | .sl r n,.sl r' n'=>bif Nat.beq r r' then n'=n else False
 | .sub r sz lo n,.sub r' sz' lo' n'=>bif Nat.beq r r' && Nat.beq sz sz' then lo'=lo∧n'=n else False
 | .mp r,.mp r'=>bif Nat.beq r r' then True else False
 | .agg xs,.agg ys=>a7n xs ys
 | .tup xs,.tup ys=>a7n xs ys
 | .fn f xs,.fn g ys=>bif Nat.beq f g then a7n xs ys else False
 | .yld r,.yld r'=>bif Nat.beq r r' then True else False
 | .v x,.v y=>y=x
 | _,_=>False
def a7n:List SV→List SV→Prop
 | [],[]=>True
 | [x],[y]=>veq x y
 | x :: xs,y :: ys=>veq x y∧a7n xs ys
 | _,_=>False
end
def a78 (n:Nat) (len:Nat→Nat):List (Nat→Nat→Int)→List (Nat→Nat→Int)→Prop
 | [],[]=>True
 | g :: r,g' :: r'=>(∀ j,j < n→∀ i,i < len j→g' j i=g j i)∧a78 n len r r'
 | _,_=>False
def b03 (n:Nat):Col→Col→Prop
 | .any,_=>True
 | .int _ _,.any=>n=0
 | .bool _,.any=>n=0
 | .rows _ _,.any=>n=0
 | .rows len gs,.rows len' gs'=>(∀ j,j < n→len' j=len j)∧a78 n len gs gs'
 | .int k g,.int k' g'=>bif kEq k k' then(∀ j,j < n→g' j=g j) else False
 | .bool g,.bool g'=>∀ j,j < n→g' j=g j
 | _,_=>False
def a23 (n:Nat):List Col→List Col→Prop
 | [],[]=>True
 | x :: xs,y :: ys=>b03 n x y∧a23 n xs ys
 | _,_=>False
def hEq:Option Nat→Option Nat→Bool
 | none,none=>true
 | some a,some b=>Nat.beq a b
 | _,_=>false
def d6t:Option Nat→Option Nat→Bool
 | none,_=>true
 | some a,some b=>Nat.beq a b
 | _,_=>false
def meq:MBlk→MBlk→Prop
 | .gone,_=>True
 | .cells xs,.cells ys=>a7n xs ys
 | .old xs,.old ys=>a7n xs ys
 | .stk xs us,.stk ys vs=>a7n xs ys∧us=vs
 | .lup st us cd,.lup st' us' cd'=>bif c8n st st' then us=us'∧cd=cd' else False
 | .arr n c,.arr n' c'=>n'=n∧a23 n c c'
 | .oarr e n c,.oarr e' n' c'=>bif Nat.beq e e' then n'=n∧a23 n c c' else False
 | .mapi k k' f,.mapi q q' f'=>bif kEq k q && oEq k' q' then ∀ x,f' x=f x else False
 | .mapp f,.mapp f'=>∀ x y,f' x y=f x y
 | .fmapp f,.fmapp f'=>∀ x y,f' x y=f x y
 | .iterp f c,.iterp f' c'=>(∀ x y,f' x y=f x y)∧(match c with | none=>True | some p=>c'=some p)
 | .orows e q n h k len gs,.orows e' q' n' h' k' len' gs'=>bif Nat.beq e e' && Nat.beq q q' && hEq h h' && d6t k k' then n'=n∧(∀ j,j < n→len' j=len j)∧a78 n len gs gs' else False
 | _,_=>False
def b10 (sl:List Slot):List (Nat × SV)→Prop
 | []=>True
 | (d,x) :: r=>(match nth sl d with | some s=>(match s.ch with | []=>veq x s.sv | _=>(match x with | .dead=>True | _=>False)) | none=>False)∧b10 sl r
def c0c (m:List MBlk):List (Nat × MBlk)→Prop
 | []=>True
 | (d,x) :: r=>(match nth m d with | some k=>meq x k | none=>False)∧c0c m r
def a1b (ps:List (Nat × SV)) (ws kill:List Nat):Nat→List Slot→List Slot
 | _,[]=>[]
 | d,s :: r=>(match j9 ps d with
  | some v=>⟨[],v⟩
  | none=>bif a0l d ws then⟨[],.dead⟩ else(match s.ch with
   | []=>⟨[],a4s kill s.sv⟩
   | _=>⟨[],.dead⟩)) :: a1b ps ws kill (d + 1) r
def a1h (ps:List (Nat × MBlk)) (kill:List Nat):Nat→List MBlk→List MBlk
 | _,[]=>[]
 | d,k :: r=>(match j9 ps d with
  | some v=>v
  | none=>q7 kill k) :: a1h ps kill (d + 1) r
def head (L:LAnn) (ws:List Nat) (s:St) (x:L.X):St:=
 ⟨a1b (L.slots x) ws L.kill 0 s.slots,a1h (L.mem x) L.kill 0 s.mem,[]⟩
def a4f:Option MBlk→Option MBlk
 | some (.arr n c)=>some (.arr n c)
 | some (.oarr _ 0 c)=>some (.arr 0 c)
 | _=>none
def b3b (gs:List Nat) (e r off:Nat) (s:St):St:=match nth s.mem r with
 | some (.cells cs)=>match nth cs off with
  | some (.sl q n)=>match a4f (nth s.mem q) with
   | some k=>bif Nat.blt e s.mem.length && gs.all (fun g=>!Nat.beq g e) && !(Nat.beq e r) then⟨a1b [] [] [e] 0 s.slots,a1h [(e,k),(r,.cells (o7 (t6 [e] cs) off (.sl e n)))] [e] 0 s.mem,s.dirty⟩ else s
   | none=>s
  | _=>s
 | _=>s
def b3c (gs:List Nat) (e r off:Nat) (s:St):St:=match nth s.mem r with
 | some (.cells cs)=>match nth cs off with
  | some (.sl q n)=>match nth s.mem q with
   | some (.oarr e0 n0 c0)=>bif Nat.blt e s.mem.length && gs.all (fun g=>!Nat.beq g e) && !(Nat.beq e r) && !(Nat.beq q e) then⟨a1b [] [] [e,q] 0 s.slots,a1h [(e,.oarr e0 n0 c0),(r,.cells (o7 (t6 [e,q] cs) off (.sl e n))),(q,.gone)] [e,q] 0 s.mem,s.dirty⟩ else s
   | _=>s
  | _=>s
 | _=>s
def b3d (gs:List Nat) (e d:Nat) (s:St):St:=match nth s.slots d with
 | some ⟨[],.sl q n⟩=>match nth s.mem q with
  | some (.oarr e0 n0 c0)=>bif Nat.blt e s.mem.length && gs.all (fun g=>!Nat.beq g e) && !(Nat.beq q e) then⟨a1b [(d,.sl e n)] [] [e,q] 0 s.slots,a1h [(e,.oarr e0 n0 c0),(q,.gone)] [e,q] 0 s.mem,s.dirty⟩ else s
  | _=>s
 | _=>s
def b94 (gs:List Nat) (p:Nat × Nat) (s:St):St:=bif Nat.ble 3000000 p.2 then b3d gs p.1 (p.2 - 3000000) s else bif Nat.ble 2000000 p.2 then b3c gs p.1 ((p.2 - 2000000) / 100) ((p.2 - 2000000) % 100) s else bif Nat.ble 1000000 p.2 then b3b gs p.1 ((p.2 - 1000000) / 100) ((p.2 - 1000000) % 100) s else match nth s.slots p.2 with
 | some ⟨[],.sl r n⟩=>match a4f (nth s.mem r) with
  | some k=>bif Nat.blt p.1 s.mem.length && gs.all (fun g=>!Nat.beq g p.1) then⟨a1b [(p.2,.sl p.1 n)] [] [p.1] 0 s.slots,a1h [(p.1,k)] [p.1] 0 s.mem,s.dirty⟩ else s
  | none=>s
 | _=>s
def a4v (gs:List Nat):List (Nat × Nat)→St→St
 | [],s=>s
 | p :: r,s=>a4v gs r (b94 gs p s)
def a2l:List Slot→List Slot→Prop
 | [],[]=>True
 | [],_ :: _=>False
 | h :: hs,s :: ss=>(match h.sv with
  | .dead=>a2l hs ss
  | x=>(match s.ch with
   | []=>veq x s.sv∧a2l hs ss
   | _=>False))
 | _ :: _,[]=>False
def a72:List MBlk→List MBlk→Prop
 | [],_=>True
 | h :: hs,s :: ss=>(match h with
  | .gone=>a72 hs ss
  | x=>meq x s∧a72 hs ss)
 | _ :: _,[]=>False
mutual
def SV.ltB:SV→Nat→Bool
 | .ptr r _,n=>Nat.blt r n
 | .pix r _ _ _,n=>Nat.blt r n
 | .sl r _,n=>Nat.blt r n
 | .sub r _ _ _,n=>Nat.blt r n
 | .mp r,n=>Nat.blt r n
 | .agg xs,n=>ltL xs n
 | .tup xs,n=>ltL xs n
 | .fn _ xs,n=>ltL xs n
 | .yld r,n=>Nat.blt r n
 | _,_=>true
def ltL:List SV→Nat→Bool
 | [],_=>true
 | x :: r,n=>SV.ltB x n && ltL r n
end
def b3e (n:Nat):List Slot→Bool
 | []=>true
 | s :: r=>s.sv.ltB n && b3e n r
def a1j (n:Nat):List MBlk→Bool
 | []=>true
 | .cells cs :: r=>ltL cs n && a1j n r
 | .old cs :: r=>ltL cs n && a1j n r
 | .stk cs _ :: r=>ltL cs n && a1j n r
 | .orows _ _ _ _ (some q) _ _ :: r=>Nat.blt q n && a1j n r
 | _ :: r=>a1j n r
def b4g (h:St):Bool:=b3e h.mem.length h.slots && a1j h.mem.length h.mem
def b8v (T:Tab) (s:St):List Oper→Option ((Int→Int→Bool) × Nat × Nat × List Oper)
 | o :: rest=>match o.op,o.guard,o.dst with
  | .next x false,none,some d=>match t5 T s.slots [] x with
   | some (.ptr r 0)=>match nth s.mem r,nth s.slots d with
    | some (.iterp left _),some _=>bif w5 (some d) s.slots then some (left,d,r,rest) else none
    | _,_=>none
   | _=>none
  | _,_,_=>none
 | []=>none
def b75 (T:Tab) (s:St):List Oper→Option (Nat × Nat × List Oper)
 | o :: rest=>bif a0l 1000002 T.sure then(match o.op,o.guard,o.dst with
  | .binOp .eql t x y _,none,some d=>match t5 T s.slots [] x,t5 T s.slots [] y,j9 T.types t with
   | some (.sl _ n),some .nilsl,some ti=>match nth s.slots d with
    | some _=>bif Nat.beq ti.kind 3 && w5 (some d) s.slots then some (n,d,rest) else none
    | none=>none
   | _,_,_=>none
  | _,_,_=>none) else none
 | []=>none
def a37 (T:Tab) (ops rest:List Oper) (s:St) (K:Ex→St→Prop):Prop:=
 match b0z T ops rest s with
 | some (ps,s')=>a7k ps (K .normal s')
 | none=>False
def c8c (m:List MBlk):Gh→Option (List Prop × List MBlk)
 | .mv _=>some ([],m)
 | .take r ix=>match nth m r with
  | some (.orows e e' n none _ len gs)=>some ([ix < n],o7 m r (.orows e e' n (some ix) (some m.length) len gs) ++ [.oarr e' (len ix) (a1q gs ix)])
  | _=>none
 | .fresh r off e w=>match nth m r with
  | some (.cells cs)=>match nth cs off with
   | some .nilsl=>bif Nat.blt 0 w then some ([],o7 m r (.cells (o7 cs off (.sl m.length 0))) ++ [.oarr e 0 (a1o w .any)]) else none
   | _=>none
  | _=>none
 | .freeze r=>match nth m r with
  | some (.oarr _ n cols)=>some ([],o7 m r (.arr n cols))
  | _=>none
 | .cols r cs=>match nth m r with
  | some (.oarr e n cols)=>bif Nat.beq cs.length cols.length then some ([n=0],o7 m r (.oarr e 0 cs)) else none
  | _=>none
def c4d:List Gh→List MBlk→Option (List Prop × List MBlk)
 | [],m=>some ([],m)
 | g :: r,m=>match c8c m g with
  | some (ps,m')=>match c4d r m' with
   | some (qs,m2)=>some (ps ++ qs,m2)
   | none=>none
  | none=>none
mutual
def y9 (f:Nat→Nat):SV→SV
 | .ptr r o=>.ptr (f r) o
 | .pix r sz ix o=>.pix (f r) sz ix o
 | .sl r n=>.sl (f r) n
 | .sub r sz lo n=>.sub (f r) sz lo n
 | .mp r=>.mp (f r)
 | .yld r=>.yld (f r)
 | .agg xs=>.agg (a3e f xs)
 | .tup xs=>.tup (a3e f xs)
 | .fn g xs=>.fn g (a3e f xs)
 | x=>x
def a3e (f:Nat→Nat):List SV→List SV
 | []=>[]
 | x :: r=>y9 f x :: a3e f r
end
def mvF (r e i:Nat):Nat:=bif Nat.beq i r then e else i
def renO (f:Nat→Nat):Option Nat→Option Nat
 | some q=>some (f q)
 | none=>none
def b6f (f:Nat→Nat):MBlk→MBlk
 | .cells cs=>.cells (a3e f cs)
 | .old cs=>.old (a3e f cs)
 | .stk cs vs=>.stk (a3e f cs) vs
 | .orows e e' n h k len gs=>.orows e e' n h (renO f k) len gs
 | k=>k
def a6b (f:Nat→Nat):List MBlk→List MBlk
 | []=>[]
 | k :: r=>b6f f k :: a6b f r
def a5j (f:Nat→Nat):List Slot→List Slot
 | []=>[]
 | s :: r=>⟨s.ch,y9 f s.sv⟩ :: a5j f r
def c8u (gs:List Nat) (r:Nat) (s:St):Option St:=match nth s.mem r with
 | some k=>bif a0l r gs then none else some ⟨a5j (mvF r s.mem.length) s.slots,a6b (mvF r s.mem.length) (o7 s.mem r .gone) ++ [b6f (mvF r s.mem.length) k],s.dirty⟩
 | none=>none
def c0g (gs:List Nat):List Gh→St→Option St
 | [],s=>some s
 | .mv r :: l,s=>match c8u gs r s with
  | some s'=>c0g gs l s'
  | none=>none
 | _ :: l,s=>c0g gs l s
def b3g (T:Tab) (id:Nat) (s:St):Option (List Prop × St):=
 match j9 T.takes id with
 | none=>some ([],s)
 | some f=>match c4d (f s.slots s.mem) s.mem with
  | some (ps,m)=>match c0g (a21 T) (f s.slots s.mem) ⟨s.slots,m,s.dirty⟩ with
   | some s'=>some (ps,s')
   | none=>none
  | none=>none
def a88 (T:Tab) (sl:List Slot) (m:List MBlk):ResultVar→Option SV
 | .tmp a=>t5 T sl [] (.tmp a)
 | .cell a t=>match j9 T.types t,t5 T sl [] (.tmp a) with
  | some ti,some (.ptr r off)=>match nth m r with
   | some (.cells cs)=>loadAt ti cs off
   | _=>none
  | _,_=>none
def c9s (T:Tab) (sl:List Slot) (m:List MBlk) (rs:List ResultVar):Option SV:=
 match rs with
 | []=>some (.tup [])
 | [a]=>a88 T sl m a
 | [a,b]=>match a88 T sl m a,a88 T sl m b with
  | some x,some y=>some (.tup [x,y])
  | _,_=>none
 | [a,b,c]=>match a88 T sl m a,a88 T sl m b,a88 T sl m c with
  | some x,some y,some z=>some (.tup [x,y,z])
  | _,_,_=>none
 | _=>none
def c3c (T:Tab) (rs:List ResultVar) (R:SV→List MBlk→Prop):Ex→St→Prop
 | .exit _,_=>False
 | _,s=>match c9s T s.slots s.mem rs with
  | some v=>R v s.mem
  | none=>False
def c0w:Nat→List Slot
 | 0=>[]
 | n + 1=>⟨[],.dead⟩ :: c0w n
def a1c:List SV→Nat→List Slot
 | [],n=>c0w n
 | x :: r,n=>⟨[],x⟩ :: a1c r (n - 1)
def a98:List Slot→List SV
 | []=>[]
 | s :: r=>(match s.ch with | []=>s.sv | _=>.dead) :: a98 r
def a1r:List SV→List Slot
 | []=>[]
 | x :: r=>⟨[],x⟩ :: a1r r
inductive CallT where
 | fn (f:Nat)
 | yl (r:Nat)
def c4f (T:Tab) (sl:List Slot) (o:Oper):Option (CallT × List SV):=
 match o.op with
 | .call cl=>match a4i T sl [] cl.callee,a3f T sl [] cl.args.toList with
  | some (f,ys),some vs=>match j9 T.inl f with
   | some _=>some (.fn f,vs ++ ys)
   | none=>none
  | none,some vs=>match cl.callee with
   | .value x=>match t5 T sl [] x with
    | some (.yld r)=>some (.yl r,vs)
    | _=>none
   | _=>none
  | _,_=>none
 | _=>none
def Tab.into (T:Tab) (J:Inl) (b:Nat):Tab:=⟨T.types,T.globals,T.calls,J.loops,T.callsB,(b,(none,0)) :: T.pins,J.takes,J.sure,T.inl,T.back,false⟩
def Tab.intoR (T:Tab) (J:Inl) (b:Nat) (x:Option Addr × Nat) (us:List Value) (cd:LupCd) (ps:Array Tmp) (assign body:Code):Tab:=⟨T.types,T.globals,T.calls,J.loops,T.callsB,(b,(none,0)) :: (b + 1,x) :: T.pins,J.takes,J.sure,T.inl,some ⟨b + 1,b,us,cd,ps,assign,body,T.loops,T.takes,T.sure⟩,false⟩
def Tab.rnd (T:Tab) (k:Back) (b:Nat):Tab:=⟨T.types,T.globals,T.calls,k.loops,T.callsB,(b,(none,0)) :: T.pins,k.takes,k.sure,T.inl,none,true⟩
def a7t (q:Nat) (w:Bool):List (Nat × Bool)→List (Nat × Bool)
 | []=>[]
 | (p,v) :: r=>bif Nat.beq p q then a7t q w r else(p,v) :: a7t q w r
def know (q:Nat) (w:Bool):Nat→List Slot→List Slot
 | _,[]=>[]
 | d,s :: r=>(bif b8c (q,!w) s.ch then⟨[],.dead⟩ else⟨a7t q w s.ch,bif Nat.beq d q then(bif w then .tt else .ff) else s.sv⟩) :: know q w (d + 1) r
def c3o:List (Nat × Bool)→List Slot→(Bool→List Slot→Prop)→Prop
 | [],sl,K=>K true sl
 | (q,w) :: r,sl,K=>c3o r sl (fun ok sl=>match ok with
  | false=>K false sl
  | true=>match nth sl q with
   | some ⟨[],.b x⟩=>(x=w→K true (know q w 0 sl))∧(x=(!w)→K false (know q (!w) 0 sl))
   | _=>False)
def a8t (T:Tab) (I:CallT→Nat→List SV→List MBlk→(SV→List MBlk→Prop)→Prop) (ops:List Oper):List Oper→St→(St→Prop)→Prop
 | [],s,K=>K ⟨clean s.slots,s.mem,s.dirty⟩
 | o :: rest,s,K=>match b75 T s [o] with
  | some (n,d,_)=>(n=0→a8t T I ops rest ⟨o7 s.slots d ⟨[],.tt⟩,s.mem,s.dirty⟩ K)∧a8t T I ops rest ⟨o7 s.slots d ⟨[],.ff⟩,s.mem,s.dirty⟩ K
  | none=>match opA T ops s.slots s.mem o with
   | some (ps,sl,m)=>a7k ps (a8t T I ops rest ⟨sl,m,s.dirty⟩ K)
   | none=>match opB T ops s.slots s.mem o with
    | some (ps,sl,m,d)=>a7k ps (a8t T I ops rest ⟨sl,m,d ++ s.dirty⟩ K)
    | none=>match a52 s.slots ops o.guard with
     | some (some c)=>bif b3z s.slots c c then c3o c s.slots (fun ok sl=>match ok with
      | false=>(match a6p sl o.dst ⟨[],.dead⟩ with
       | some sl'=>bif w5 o.dst sl then a8t T I ops rest ⟨sl',s.mem,s.dirty⟩ K else False
       | none=>False)
      | true=>match c4f T sl o with
       | some (f,vs)=>∀ us:List Value,I f s.mem.length vs (s.mem ++ [.stk (a98 sl) us]) (fun sv m'=>match nth m' s.mem.length with
        | some (.stk cs us')=>us'=us∧(match a6p (a1r cs) o.dst ⟨[],sv⟩ with
         | some sl'=>a8t T I ops rest ⟨sl',o7 m' s.mem.length .gone,s.dirty⟩ K
         | none=>False)
        | _=>False)
       | none=>False) else False
     | _=>False
def b6q (T:Tab) (I:CallT→Nat→List SV→List MBlk→(SV→List MBlk→Prop)→Prop) (ops:List Oper) (s:St) (K:St→Prop):Prop:=
 match b1z T ops ops s.slots s.mem with
 | (ps,sl,m,ls,r) =>
  let an:=x9 ops []
  bif a11 s.slots && a0o 0 ops && a62 ops && a0t ops an 0 ls an && a4w ls.length (a1u ls.length an) then a7k ps (a8t T I ops r ⟨sl,m,s.dirty⟩ K) else False
def b60 (T:Tab) (I:CallT→Nat→List SV→List MBlk→(SV→List MBlk→Prop)→Prop) (ops:Array Oper) (s:St) (K:St→Prop):DT→List (Nat × Nat)→Prop
 | .leaf inv,ex=>bif b1s ops.toList inv (a7z inv) ex then(match a5t T (a13 ops.toList inv (a7z inv) ex).toArray s with
  | some x=>a7k x.1 (K x.2)
  | none=>b6q T I (a13 ops.toList inv (a7z inv) ex) s K) else False
 | .node x i l r,ex=>bif Nat.beq x i || !(Nat.blt x ops.toList.length) || !(Nat.blt i ops.toList.length) then False else b60 T I ops s K l (ex ++ [(x,i)])∧b60 T I ops s K r (ex ++ [(i,x)])
def regK (T:Tab) (I:CallT→Nat→List SV→List MBlk→(SV→List MBlk→Prop)→Prop) (draw:Bool) (id:Nat) (ops:Array Oper) (s:St) (K:St→Prop):Prop:=
 bif draw then(match d8d T id with
  | some t=>b60 T I ops s K t []
  | none=>match a8h T ops s with
   | some (x,y,z)=>a7k x.1 (K x.2)∧a7k y.1 (K y.2)∧a7k z.1 (K z.2)
   | none=>b6q T I ops.toList s K) else a8t T I ops.toList ops.toList s K
def b5p:List Tmp→List SV→List SV→Option (List SV)
 | [],[],cs=>some cs
 | p :: ps,v :: vs,cs=>b5p ps vs (o7 cs p v)
 | _,_,_=>none
def a6l:List Oper→Bool
 | []=>true
 | o :: r=>(match o.op with | .defer _=>false | _=>true) && a6l r
def c8f:Ex→LSt
 | .normal=>.ready
 | .ret=>.done .ret
 | .exit id=>.done (.exit id)
def jcV:Ex→SV
 | .normal=>.tt
 | _=>.ff
def jcK:LSt→Option Ex
 | .ready=>some .normal
 | .done .ret=>some .ret
 | .done (.exit id)=>some (.exit id)
 | .busy=>none
def vc:Tab→Nat→Nat→Code→St→(Ex→St→Prop)→Prop
 | _,0,_,_,_,_=>False
 | T,n + 1,bid,c,s,K=>match c with
  | .skip=>K .normal s
  | .label _=>K .normal s
  | .ret=>K .ret s
  | .exit id=>K (.exit id) s
  | .region id ops draw=>bif T.rmode then(match b3g T id s with
   | some (tps,s)=>a7k tps (bif a6l ops.toList then(bif draw then b6q T (fun _ _ _ _ _=>False) ops.toList s (fun s'=>K .normal s') else a8t T (fun _ _ _ _ _=>False) ops.toList ops.toList s (fun s'=>K .normal s')) else False)
   | none=>False) else match b3g T id s with
   | some (tps,s)=>a7k tps (match b8v T s ops.toList with
    | some (left,d,r,rest)=>bif draw then False else
       ((∀ a b,left a b=false)→a37 T ops.toList rest ⟨o7 s.slots d ⟨[],.tup [.ff]⟩,s.mem,s.dirty⟩ K) ∧
       (∀ a b,left a b=true→a37 T ops.toList rest ⟨o7 s.slots d ⟨[],.tup [.tt,.agg [.i .i64 a,.i .i64 b],.tt]⟩,o7 s.mem r (.iterp (fun x y=>left x y && !(x == a && y == b)) (some (a,b))),s.dirty⟩ K)
    | none=>match b75 T s ops.toList with
     | some (n,d,rest)=>bif draw then False else
       (n=0→a37 T ops.toList rest ⟨o7 s.slots d ⟨[],.tt⟩,s.mem,s.dirty⟩ K)∧a37 T ops.toList rest ⟨o7 s.slots d ⟨[],.ff⟩,s.mem,s.dirty⟩ K
     | none=>match(bif draw then a5t T ops s else bif a0l 1000002 T.sure then none else b0z T ops.toList ops.toList s) with
      | some (ps,s')=>a7k ps (K .normal s')
      | none=>regK T (fun ct b vs m R=>match ct with
        | .fn f=>(match j9 T.inl f with
         | some J=>match J.fn.body with
          | some c=>vc (T.into J b) n 0 c ⟨a1c vs J.fn.ntmps,m,[]⟩ (c3c (T.into J b) J.fn.results.toList R)
          | none=>False
         | none=>False)
        | .yl r=>(match T.back with
         | some k=>(match nth m r,nth m k.s with
          | some (.lup .ready us cd),some (.stk cs us')=>bif Nat.beq r k.r then us=k.us∧cd=k.cd∧us'=k.us∧(match b5p k.ps.toList vs cs with
           | some cs'=>vc (T.rnd k b) n 0 k.assign ⟨a1r cs',m,[]⟩ (fun e s1=>match e with
            | .normal=>(match nth s1.mem r with
             | some (.lup .ready us cd)=>us=k.us∧cd=k.cd∧vc (T.rnd k b) n 0 k.body ⟨s1.slots,o7 s1.mem r (.lup .busy us cd),[]⟩ (fun e s2=>match nth s2.mem r with
              | some (.lup .busy us cd)=>us=k.us∧cd=k.cd∧R (jcV e) (o7 s2.mem r (.lup (c8f e) us cd))
              | _=>False)
             | _=>False)
            | _=>False)
           | none=>False) else False
          | _,_=>False)
         | none=>False)) draw id ops s (fun s'=>K .normal s'))
   | none=>False
  | .seq a b=>vc T n bid a s (fun e s'=>match e with
   | .normal=>vc T n bid b s' K
   | e=>K e s')
  | .cond x a b=>match t5 T s.slots [] x with
   | some .tt=>vc T n bid a s K
   | some .ff=>vc T n bid b s K
   | some (.b t)=>(t=true→vc T n bid a ⟨refine s.slots x .tt,s.mem,s.dirty⟩ K)∧(t=false→vc T n bid b ⟨refine s.slots x .ff,s.mem,s.dirty⟩ K)
   | _=>False
  | .block id body=>vc T n id body s (fun e s'=>match e with
   | .exit id'=>bif Nat.beq id' id then K .normal s' else K (.exit id') s'
   | e=>K e s')
  | .scope body=>bif T.rmode then False else vc T n bid body s K
  | .rangeFunc g ps assign body=>match T.rmode,T.back,t5 T s.slots [] g with
   | false,none,some (.fn f ys)=>(match j9 T.inl f with
    | some J=>match J.fn.body with
      | some c=>∀(us:List Value) (cd:LupCd) (x:Option Addr × Nat),vc (T.intoR J s.mem.length x us cd ps assign body) n 0 c ⟨a1c (.yld (s.mem.length + 1) :: ys) J.fn.ntmps,s.mem ++ [.stk (a98 s.slots) us,.lup .ready us cd],[]⟩
       (c3c (T.intoR J s.mem.length x us cd ps assign body) J.fn.results.toList (fun _ m'=>match nth m' s.mem.length,nth m' (s.mem.length + 1) with
        | some (.stk cs us'),some (.lup st us2 cd2)=>us'=us∧us2=us∧cd2=cd∧(match jcK st with
         | some e=>K e ⟨a1r cs,o7 (o7 m' s.mem.length .gone) (s.mem.length + 1) .gone,s.dirty⟩
         | none=>False)
        | _,_=>False))
      | none=>False
    | none=>False)
   | _,_,_=>False
  | .loop body=>match j9 T.loops bid with
   | some (PL:PLoop)=>∃ y:PL.Y,(∃ x,(PL.ann y).inv x∧b10 (a4v (a21 T) (PL.ann y).ren s).slots ((PL.ann y).slots x)∧c0c (a4v (a21 T) (PL.ann y).ren s).mem ((PL.ann y).mem x)) ∧
      ∀ x,(PL.ann y).inv x→(bif b4g (head (PL.ann y) (a19 body) (a4v (a21 T) (PL.ann y).ren s) x) then vc T n bid body (head (PL.ann y) (a19 body) (a4v (a21 T) (PL.ann y).ren s) x) (fun e s'=>match e with
       | .normal=>∃ x',(PL.ann y).inv x'∧(PL.ann y).mu x' < (PL.ann y).mu x∧a2l (head (PL.ann y) (a19 body) (a4v (a21 T) (PL.ann y).ren s) x').slots (a4v (a21 T) (PL.ann y).ren s').slots∧a72 (head (PL.ann y) (a19 body) (a4v (a21 T) (PL.ann y).ren s) x').mem (a4v (a21 T) (PL.ann y).ren s').mem
       | .ret=>K .ret s'
       | .exit id=>K (.exit id) s') else False)
   | none=>False
  | _=>False
@[irreducible] def s4 (T:Tab) (fn:Func) (args:List SV) (m:List MBlk) (R:SV→List MBlk→Prop):Prop:=
 match T.rmode,fn.body with
 | false,some c=>vc T 1000 0 c ⟨a1c args fn.ntmps,m,[]⟩ (c3c T fn.results.toList R)
 | _,_=>False
end
end Go.Proofs.YtaeeaniofljmnaaGreatDoor.Sx
