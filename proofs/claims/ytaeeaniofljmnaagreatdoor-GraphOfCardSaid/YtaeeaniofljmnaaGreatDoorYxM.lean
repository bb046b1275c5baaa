/-
  A part of the proof (YxM).
-/
import Derived.Test.YtaeeaniofljmnaaGreatDoorYx16
import Derived.Test.YtaeeaniofljmnaaGreatDoorYx14
namespace Go.Proofs.YtaeeaniofljmnaaGreatDoor.Sx
set_option linter.unusedSimpArgs false
set_option linter.unusedVariables false
open Go Go.RowKit
abbrev Pq:=Int × Int
def b8 {α:Type} (d:α):List α→Nat→α
 | [],_=>d
 | x :: _,0=>x
 | _ :: r,n + 1=>b8 d r n
def c43 {α:Type} (g:Nat→α):Nat→Nat→List α
 | _,0=>[]
 | j,n + 1=>g j :: c43 g (j + 1) n
def mkN {α:Type} (g:Nat→α) (n:Nat):List α:=c43 g 0 n
structure Ev where
 ag:Int
 ix:Int
 k:Int
 ob:Int
 mu:Int
 en:Int
 od:Int
 rd:Int
 wr:Int
deriving DecidableEq
def e0:Ev:=⟨0,0,0,0,0,0,0,0,0⟩
def a6k (e:Ev):SV:=.agg [.i .i64 e.ag,.i .i64 e.ix,.i .i64 e.k,.i .i64 e.ob,.i .i64 e.mu,.i .i64 e.en,.i .i64 e.od,.i .i64 e.rd,.i .i64 e.wr]
inductive AV where
 | i (n:Int)
 | b (x:Bool)
 | pr (p:Pq)
 | r (N:Int) (l:List Pq)
 | ps (l:List Pq)
 | is (l:List Int)
 | bs (l:List Bool)
 | rs (l:List (List Int))
 | mp (f:Int→Int→Bool)
 | u (n:Int)
 | us (l:List Int)
 | po (N:Int) (l:List Int)
 | ev (e:Ev)
 | es (l:List Ev)
 | rl (l:List (Int × List Pq))
inductive AK where
 | i | b | pr | r | ps | is | bs | rs | mp | u | us | po | ev | es | rl
structure Els where
 ps:Nat
 is:Nat
 bs:Nat
 rs:Nat
 us:Nat:=0
 es:Nat:=0
 rl:Nat:=0
def a1n (l:List Pq):List Col:=[.int .i64 (fun j=>(b8 (0,0) l j).1),.int .i64 (fun j=>(b8 (0,0) l j).2)]
def j6 (l:List Int):List Col:=[.int .i64 (b8 0 l)]
def b0u (l:List Int):List Col:=[.int .u64 (b8 0 l)]
def a9t (l:List Bool):List Col:=[.bool (b8 false l)]
def l4 (l:List (List Int)):List Col:=[.rows (fun j=>(b8 [] l j).length) [fun j i=>b8 0 (b8 [] l j) i]]
def g9 (l:List Ev):List Col:=[.int .i64 (fun j=>(b8 e0 l j).ag),.int .i64 (fun j=>(b8 e0 l j).ix),.int .i64 (fun j=>(b8 e0 l j).k),.int .i64 (fun j=>(b8 e0 l j).ob),.int .i64 (fun j=>(b8 e0 l j).mu),.int .i64 (fun j=>(b8 e0 l j).en),.int .i64 (fun j=>(b8 e0 l j).od),.int .i64 (fun j=>(b8 e0 l j).rd),.int .i64 (fun j=>(b8 e0 l j).wr)]
def b3u (l:List (Int × List Pq)):List Col:=[.int .i64 (fun j=>(b8 (0,[]) l j).1),.rows (fun j=>(b8 (0,[]) l j).2.length) [fun j i=>(b8 (0,0) (b8 (0,[]) l j).2 i).1,fun j i=>(b8 (0,0) (b8 (0,[]) l j).2 i).2]]
def AV.len:AV→Nat
 | .r _ l=>l.length
 | .ps l=>l.length
 | .is l=>l.length
 | .bs l=>l.length
 | .rs l=>l.length
 | .us l=>l.length
 | .po _ l=>l.length
 | .es l=>l.length
 | .rl l=>l.length
 | _=>0
def AV.cols:AV→List Col
 | .r _ l=>a1n l
 | .ps l=>a1n l
 | .is l=>j6 l
 | .bs l=>a9t l
 | .rs l=>l4 l
 | .us l=>b0u l
 | .po _ l=>b0u l
 | .es l=>g9 l
 | .rl l=>b3u l
 | _=>[.any]
def AV.el (E:Els):AV→Nat
 | .r _ _=>E.ps
 | .ps _=>E.ps
 | .is _=>E.is
 | .bs _=>E.bs
 | .rs _=>E.rs
 | .us _=>E.us
 | .po _ _=>E.us
 | .es _=>E.es
 | .rl _=>E.rl
 | _=>0
def AV.blk:AV→Option MBlk
 | .i _=>none
 | .u _=>none
 | .b _=>none
 | .pr _=>none
 | .ev _=>none
 | .mp f=>some (.fmapp f)
 | .r _ l=>some (.arr l.length (a1n l))
 | .ps l=>some (.arr l.length (a1n l))
 | .is l=>some (.arr l.length (j6 l))
 | .bs l=>some (.arr l.length (a9t l))
 | .rs l=>some (.arr l.length (l4 l))
 | .us l=>some (.arr l.length (b0u l))
 | .po _ l=>some (.arr l.length (b0u l))
 | .es l=>some (.arr l.length (g9 l))
 | .rl l=>some (.arr l.length (b3u l))
def AV.sv (x:Nat):AV→SV
 | .i n=>.i .i64 n
 | .u n=>.i .u64 n
 | .b x=>.b x
 | .pr p=>.agg [.i .i64 p.1,.i .i64 p.2]
 | .mp _=>.mp x
 | .r N l=>.agg [.i .i64 N,.sl x l.length]
 | .ps l=>.sl x l.length
 | .is l=>.sl x l.length
 | .bs l=>.sl x l.length
 | .rs l=>.sl x l.length
 | .us l=>.sl x l.length
 | .po N l=>.agg [.i .i64 N,.sl x l.length]
 | .ev e=>a6k e
 | .es l=>.sl x l.length
 | .rl l=>.sl x l.length
def AV.use (a:AV):Nat:=match a.blk with
 | some _=>1
 | none=>0
def a4a:Nat→List AV→List SV
 | _,[]=>[]
 | i,a :: r=>a.sv i :: a4a (i + a.use) r
def z5:List AV→List MBlk
 | []=>[]
 | a :: r=>match a.blk with
  | some k=>k :: z5 r
  | none=>z5 r
def c0x:AK→Nat→List Col→Option AV
 | .ps,n,[.int .i64 g,.int .i64 h]=>some (.ps (mkN (fun j=>(g j,h j)) n))
 | .ps,0,[.any,.any]=>some (.ps [])
 | .is,n,[.int .i64 g]=>some (.is (mkN g n))
 | .is,0,[.any]=>some (.is [])
 | .bs,n,[.bool g]=>some (.bs (mkN g n))
 | .bs,0,[.any]=>some (.bs [])
 | .us,n,[.int .u64 g]=>some (.us (mkN g n))
 | .us,0,[.any]=>some (.us [])
 | .rs,n,[.rows len [g]]=>some (.rs (mkN (fun j=>mkN (g j) (len j)) n))
 | .rs,0,[.any]=>some (.rs [])
 | .es,n,[.int .i64 a,.int .i64 b,.int .i64 c,.int .i64 d,.int .i64 e,.int .i64 f,.int .i64 g,.int .i64 h,.int .i64 i]=>some (.es (mkN (fun j=>⟨a j,b j,c j,d j,e j,f j,g j,h j,i j⟩) n))
 | .es,0,[.any,.any,.any,.any,.any,.any,.any,.any,.any]=>some (.es [])
 | .rl,n,[.int .i64 a,.rows len [g,h]]=>some (.rl (mkN (fun j=>(a j,mkN (fun i=>(g j i,h j i)) (len j))) n))
 | _,_,_=>none
def b6e:AK→Option AV
 | .ps=>some (.ps [])
 | .is=>some (.is [])
 | .bs=>some (.bs [])
 | .rs=>some (.rs [])
 | .us=>some (.us [])
 | .es=>some (.es [])
 | _=>none
def c19 (m:List MBlk) (k:AK):SV→Option (List Prop × Option Nat × AV)
 | .nilsl=>match b6e k with
  | some a=>some ([],none,a)
  | none=>none
 | .sl r n=>match nth m r with
  | some b=>match a5o b with
   | some (n',cols)=>match c0x k n' cols with
    | some a=>some ([n=n'],some r,a)
    | none=>none
   | none=>none
  | none=>none
 | _=>none
def rdA (m:List MBlk) (k:AK) (v:SV):Option (List Prop × Option (Option Nat) × AV):=
 match k with
 | .i=>match v with
  | .i .i64 n=>some ([],none,.i n)
  | _=>none
 | .u=>match v with
  | .i .u64 n=>some ([],none,.u n)
  | _=>none
 | .ev=>match v with
  | .agg [.i .i64 a,.i .i64 b,.i .i64 c,.i .i64 d,.i .i64 e,.i .i64 f,.i .i64 g,.i .i64 h,.i .i64 i]=>some ([],none,.ev ⟨a,b,c,d,e,f,g,h,i⟩)
  | _=>none
 | .po=>match v with
  | .agg [.i .i64 N,x]=>match c19 m .us x with
   | some (ps,q,.us l)=>some (ps,some q,.po N l)
   | _=>none
  | _=>none
 | .b=>match bOf v with
  | some y=>some ([],none,.b y)
  | none=>none
 | .pr=>match v with
  | .agg [.i .i64 a,.i .i64 b]=>some ([],none,.pr (a,b))
  | _=>none
 | .r=>match v with
  | .agg [.i .i64 N,x]=>match c19 m .ps x with
   | some (ps,q,.ps l)=>some (ps,some q,.r N l)
   | _=>none
  | _=>none
 | .mp=>match v with
  | .mp r=>match nth m r with
   | some k=>match a9h k with
    | some f=>some ([],some (some r),.mp f)
    | none=>none
   | none=>none
  | _=>none
 | k=>match c19 m k v with
  | some (ps,q,a)=>some (ps,some q,a)
  | none=>none
def a6c (m:List MBlk):List AK→List SV→Option (List Prop × List (Option (Option Nat)) × List AV)
 | [],[]=>some ([],[],[])
 | k :: ks,v :: vs=>match rdA m k v,a6c m ks vs with
  | some (p,q,a),some (ps,qs,as)=>some (p ++ ps,q :: qs,a :: as)
  | _,_=>none
 | _,_=>none
def a9d (nm:List (Option AV)):Option (Option Nat)→AV→Option (List Prop × AV)
 | some (some r),a=>match nth nm r with
  | some (some A)=>match A,a with
   | .r _ l,.r N l'=>some ([l'=l],.r N l)
   | .ps l,.ps l'=>some ([l'=l],.ps l)
   | .r _ l,.ps l'=>some ([l'=l],.ps l)
   | .ps l,.r N l'=>some ([l'=l],.r N l)
   | .is l,.is l'=>some ([l'=l],.is l)
   | .bs l,.bs l'=>some ([l'=l],.bs l)
   | .rs l,.rs l'=>some ([l'=l],.rs l)
   | .us l,.us l'=>some ([l'=l],.us l)
   | .es l,.es l'=>some ([l'=l],.es l)
   | .rl l,.rl l'=>some ([l'=l],.rl l)
   | .po _ l,.po N l'=>some ([l'=l],.po N l)
   | .us l,.po N l'=>some ([l'=l],.po N l)
   | .mp f,.mp f'=>some ([f'=f],.mp f)
   | _,a=>some ([],a)
  | _=>some ([],a)
 | _,a=>some ([],a)
def z9 (nm:List (Option AV)):List (Option (Option Nat))→List AV→Option (List Prop × List AV)
 | [],[]=>some ([],[])
 | q :: qs,a :: as=>match a9d nm q a,z9 nm qs as with
  | some (p,a'),some (ps,as')=>some (p ++ ps,a' :: as')
  | _,_=>none
 | _,_=>none
inductive RV where
 | mi (k:IntKind) (k':Option IntKind) (f:Int→Option Int) (x:SV)
 | pl (x:SV)
 | sl (t:Nat→SV) (a:AV)
 | mp (f:Int→Int→Bool)
 | tw (x y z:SV) (l:List Int)
def RV.ok:RV→Bool
 | .mi _ _ _ x=>x.ltB 0
 | .pl x=>x.ltB 0
 | .sl t a=>tOk (t a.len)
 | .mp _=>true
 | .tw x y z _=>x.ltB 0 && y.ltB 0 && z.ltB 0
def RV.post (E:Els):RV→SV→List MBlk→Prop
 | .mi k k' f x=>a9k k k' f x
 | .pl x=>l8 x
 | .sl t a=>a6f (t a.len) (a.el E) a.len a.cols
 | .mp f=>a79 f
 | .tw x y z l=>c1c x y z E.is l.length (j6 l)
def RV.ar (E:Els) (n:Nat) (pre:List Prop):RV→AR
 | .mi k k' f x=>⟨pre,.tup [.mp n,x],[.mapi k k' f]⟩
 | .pl x=>⟨pre,x,[]⟩
 | .sl t a=>⟨pre,a2w n (t a.len),[.oarr (a.el E) a.len a.cols]⟩
 | .mp f=>⟨pre,.mp n,[.mapp f]⟩
 | .tw x y z l=>⟨pre,.tup [x,.agg [.sl (n + 1) l.length,.sl n l.length,z],y],[.oarr E.is l.length (j6 l),.gone]⟩
def b71:List (Option AV)→List MBlk→Option AV
 | [],_=>none
 | a :: _,[]=>a
 | _ :: nm,_ :: m=>b71 nm m
def a7z (nm:List (Option AV)) (m:List MBlk):RV→Option (List Prop × RV)
 | .mi k k' f x=>some ([],.mi k k' f x)
 | .pl x=>some ([],.pl x)
 | .sl t a=>match b71 nm m with
  | some A=>match a9d [some A] (some (some 0)) a with
   | some (p,a')=>some (p,.sl t a')
   | none=>none
  | none=>some ([],.sl t a)
 | .mp f=>match b71 nm m with
  | some (.mp f')=>some ([f=f'],.mp f')
  | _=>some ([],.mp f)
 | .tw x y z l=>some ([],.tw x y z l)
def a1g (E:Els) (nm:List (Option AV)) (ks:List AK) (S:List AV→Option (List Prop × RV)):List MBlk→List SV→Option AR:=fun m vs=>match a6c m ks vs with
 | some (p1,qs,as)=>match z9 nm qs as with
  | some (p2,as')=>match S as' with
   | some (p3,rv)=>match a7z nm m rv with
    | some (p4,rv')=>some (rv'.ar E m.length (p1 ++ (p2 ++ (p3 ++ p4))))
    | none=>none
   | none=>none
  | none=>none
 | none=>none
theorem c6g {α:Type} (g:Nat→α):∀(n j:Nat),(c43 g j n).length=n:=by
 intro n
 induction n with
 | zero=>intro j; rfl
 | succ n ih=>intro j; simp[c43,ih]
@[simp] theorem i9 {α:Type} (g:Nat→α) (n:Nat):(mkN g n).length=n:=c6g g n 0
theorem s9 {α:Type} (d:α):∀(l:List α) (j:Nat) (h:j < l.length),b8 d l j=l[j]:=by
 intro l
 induction l with
 | nil=>intro j h; simp at h
 | cons x r ih =>
  intro j h
  cases j with
  | zero=>rfl
  | succ j=>exact ih j (by simpa using h)
theorem nthD_out {α:Type} (d:α):∀(l:List α) (j:Nat),l.length≤j→b8 d l j=d:=by
 intro l
 induction l with
 | nil=>intro j _; rfl
 | cons x r ih =>
  intro j h
  cases j with
  | zero=>simp at h
  | succ j=>exact ih j (by simpa using h)
theorem c4a {α:Type} (d:α) (g:Nat→α):∀(n k j:Nat),j < n→b8 d (c43 g k n) j=g (k + j):=by
 intro n
 induction n with
 | zero=>intro k j h; omega
 | succ n ih =>
  intro k j h
  cases j with
  | zero=>rfl
  | succ j =>
   simp only[c43,b8]
   rw[ih (k + 1) j (by omega)]
   congr 1
   omega
theorem v9 {α:Type} (d:α) (g:Nat→α) {n j:Nat} (h:j < n):b8 d (mkN g n) j=g j:=by
 unfold mkN
 rw[c4a d g n 0 j h,z1d]
@[simp] theorem g8 {α:Type} (d:α) (l:List α):mkN (b8 d l) l.length=l:=by
 apply List.ext_getElem
 ·simp
 ·intro j h1 h2
  rw[← s9 d _ _ h1,v9 d _ h2,← s9 d _ _ h2]
theorem c44 {α:Type} {g h:Nat→α} {n:Nat} (e:∀ j,j < n→g j=h j):mkN g n=mkN h n:=by
 apply List.ext_getElem
 ·simp
 ·intro j h1 h2
  have hj:j < n:=by simpa using h1
  rw[← s9 (g 0) _ _ h1,← s9 (g 0) _ _ h2,v9 _ _ hj,v9 _ _ hj,e j hj]
@[simp] theorem m5 (l:List Pq):mkN (fun j=>((b8 (0,0) l j).1,(b8 (0,0) l j).2)) l.length=l:=g8 (0,0) l
@[simp] theorem n5 (l:List (List Int)):mkN (fun j=>mkN (fun i=>b8 0 (b8 [] l j) i) (b8 [] l j).length) l.length=l:=by
 have:(fun j=>mkN (fun i=>b8 0 (b8 [] l j) i) (b8 [] l j).length)=b8 [] l:=funext fun j=>g8 0 _
 rw[this]
 exact g8 [] l
@[simp] theorem o0 (l:List Ev):mkN (fun j=>(⟨(b8 e0 l j).ag,(b8 e0 l j).ix,(b8 e0 l j).k,(b8 e0 l j).ob,(b8 e0 l j).mu,(b8 e0 l j).en,(b8 e0 l j).od,(b8 e0 l j).rd,(b8 e0 l j).wr⟩:Ev)) l.length=l:=g8 e0 l
@[simp] theorem mkN_rl (l:List (Int × List Pq)):mkN (fun j=>((b8 (0,[]) l j).1,mkN (fun i=>((b8 (0,0) (b8 (0,[]) l j).2 i).1,(b8 (0,0) (b8 (0,[]) l j).2 i).2)) (b8 (0,[]) l j).2.length)) l.length=l:=by
 have:(fun j=>((b8 (0,[]) l j).1,mkN (fun i=>((b8 (0,0) (b8 (0,[]) l j).2 i).1,(b8 (0,0) (b8 (0,[]) l j).2 i).2)) (b8 (0,[]) l j).2.length))=b8 (0,[]) l:=funext fun j=>by rw[m5]
 rw[this]
 exact g8 _ l
theorem c4c {k:AK} {n:Nat} {cols:List Col} {a:AV} (h:c0x k n cols=some a):a.len=n∧a.blk=some (.arr n a.cols)∧a1a n a.cols cols∧a.cols≠[]∧∀ x,a.sv x=.sl x n:=by
 unfold c0x at h
 split at h <;> cases h
 all_goals simp only[AV.len,AV.blk,AV.cols,AV.sv,i9,z3a,a1n,j6,b0u,a9t,l4,g9,b3u,a1a,a8w,z0f,kEq,and_true,true_and,ne_eq,reduceCtorEq,not_false_eq_true,z0p,z1l,false_implies,a66]
 ·exact⟨fun j hj=>by rw[v9 _ _ hj],fun j hj=>by rw[v9 _ _ hj]⟩
 ·exact fun j hj=>by rw[v9 _ _ hj]
 ·exact fun j hj=>by rw[v9 _ _ hj]
 ·exact fun j hj=>by rw[v9 _ _ hj]
 ·exact⟨fun j hj=>by rw[v9 _ _ hj,i9],fun j hj i hi=>by rw[v9 _ _ hj,i9] at hi; rw[v9 _ _ hj,v9 _ _ hi]⟩
 ·refine⟨?_,?_,?_,?_,?_,?_,?_,?_,?_⟩ <;> exact fun j hj=>by rw[v9 _ _ hj]
 ·refine⟨fun j hj=>by rw[v9 _ _ hj],fun j hj=>by rw[v9 _ _ hj,i9],?_,?_⟩ <;> exact fun j hj i hi=>by rw[v9 _ _ hj,i9] at hi; rw[v9 _ _ hj,v9 _ _ hi]
theorem b73 {k:AK} {a:AV} (h:b6e k=some a):a.len=0∧a.blk=some (.arr 0 a.cols)∧a.cols≠[]∧∀ x,a.sv x=.sl x 0:=by
 unfold b6e at h
 split at h <;> cases h <;> exact⟨rfl,rfl,by simp[AV.cols,a1n,j6,b0u,a9t,l4,g9],fun _=>rfl⟩
theorem d08 {m:List MBlk} {k:AK} {v:SV} {ps:List Prop} {q:Option Nat} {a:AV} (h:c19 m k v=some (ps,q,a)) (hp:∀ p∈ps,p) :
  (∀ x,a.sv x=.sl x a.len)∧a.blk=some (.arr a.len a.cols)∧a.cols≠[]∧((∃ r b cols,q=some r∧v=.sl r a.len∧m[r]?=some b∧a5o b=some (a.len,cols)∧a1a a.len a.cols cols)∨(q=none∧v=.nilsl∧a.len=0)):=by
 unfold c19 at h
 split at h
 ·split at h
  ·rename_i a' ha
   cases h
   obtain⟨h1,h2,h3,h4⟩:=b73 ha
   exact⟨fun x=>by rw[h4,h1],by rw[h1]; exact h2,h3,.inr ⟨rfl,rfl,h1⟩⟩
  ·cases h
 ·rename_i r n
  split at h
  ·rename_i b hb
   split at h
   ·rename_i n' cols hs
    split at h
    ·rename_i a' ha
     cases h
     have hn:n=n':=hp _ (by simp)
     subst hn
     obtain⟨h1,h2,h3,h4,h5⟩:=c4c ha
     refine⟨fun x=>by rw[h1]; exact h5 x,by rw[h1]; exact h2,h4,.inl ⟨r,b,cols,rfl,by rw[h1],p9 hb,by rw[h1]; exact hs,by rw[h1]; exact h3⟩⟩
    ·cases h
   ·cases h
  ·cases h
 ·cases h
structure RdOk (m:List MBlk) (v:SV) (q:Option (Option Nat)) (a:AV):Prop where
 use:(a.blk=none∧q=none)∨∃ k0 q0,a.blk=some k0∧q=some q0∧kOk k0∧a0f [k0]=true∧((∃ r k,q0=some r∧m[r]?=some k∧w7 k k0)∨(q0=none∧∃ cols,k0=.arr 0 cols))
 den:∀(ρ:Env) (f:Nat→Option Nat) (x:Nat) (u:Value),(∀ q0,q=some q0→f x=q0)→Den ρ v u→Den (t5 f ρ) (a.sv x) u
 lt:∀ x n,x < n∨q=none→(a.sv x).ltB n=true
theorem a2s {ρ σ:Env} {x:SV} {u:Value} (hx:x.ltB 0=true) (h:Den ρ x u):Den σ x u:=a05 hx (fun r y hr=>by omega) h
theorem d3x {m:List MBlk} {k:AK} {v:SV} {ps:List Prop} {q:Option (Option Nat)} {a:AV} (h:rdA m k v=some (ps,q,a)) (hp:∀ p∈ps,p):RdOk m v q a:=by
 have sl:∀ {k:AK} {v:SV} {ps:List Prop} {q:Option Nat} {a:AV},c19 m k v=some (ps,q,a)→(∀ p∈ps,p)→RdOk m v (some q) a:=fun {k v ps q a} h hp=>by
  obtain⟨h1,h2,h3,h4⟩:=d08 h hp
  have hmk:a0f [MBlk.arr a.len a.cols]=true:=by
   cases hc:a.cols with
   | nil=>exact absurd hc h3
   | cons x r=>rfl
  refine⟨.inr ⟨_,q,h2,rfl,h3,hmk,?_⟩,fun ρ f x u hf hd=>?_,fun x n hx=>?_⟩
  ·rcases h4 with⟨r,b,cols,rfl,_,e1,e2,e3⟩ | ⟨rfl,_,e⟩
   ·exact .inl ⟨r,b,rfl,e1,cols,e2,e3⟩
   ·exact .inr ⟨rfl,a.cols,by rw[e]⟩
  ·rw[h1]
   rcases h4 with⟨r,b,cols,rfl,rfl,_⟩ | ⟨rfl,rfl,e⟩
   ·exact hd.slAs (hf _ rfl)
   ·rw[e]; exact hd.nilAs (hf _ rfl)
  ·rw[h1]
   rcases hx with hx | hx
   ·simpa [SV.ltB,z0u] using hx
   ·cases hx
 have sl':∀ {k:AK},(match c19 m k v with | some (ps,q,a)=>some (ps,some q,a) | none=>none)=some (ps,q,a)→RdOk m v q a:=fun {k} h=>by
  split at h
  ·rename_i p' q' a' hr
   cases h
   exact sl hr hp
  ·cases h
 cases k with
 | i =>
  simp only[rdA] at h
  split at h
  ·cases h
   exact⟨.inl ⟨rfl,rfl⟩,fun ρ f x u _ hd=>a2s rfl hd,fun _ _ _=>rfl⟩
  ·cases h
 | b =>
  simp only[rdA] at h
  split at h
  ·rename_i y hy
   cases h
   exact⟨.inl ⟨rfl,rfl⟩,fun ρ f x u _ hd=>by rw[hd.bOf hy]; exact .b _,fun _ _ _=>rfl⟩
  ·cases h
 | pr =>
  simp only[rdA] at h
  split at h
  ·cases h
   exact⟨.inl ⟨rfl,rfl⟩,fun ρ f x u _ hd=>a2s rfl hd,fun _ _ _=>rfl⟩
  ·cases h
 | r =>
  simp only[rdA] at h
  split at h
  ·rename_i N x
   split at h
   ·rename_i ps' q' l hr
    cases h
    obtain⟨u1,u2,u3⟩:=sl hr hp
    refine⟨?_,fun ρ f y u hf hd=>?_,fun y n hy=>?_⟩
    ·rcases u1 with⟨h,_⟩ | h
     ·simp[AV.blk] at h
     ·exact .inr h
    ·obtain⟨vs,rfl,hv⟩:=hd.agg_inv
     obtain⟨v1,w1,rfl,d1,e1⟩:=hv.inv
     obtain⟨v2,w2,rfl,d2,e2⟩:=e1.inv
     obtain rfl:=e2.inv_nil
     have:=DenL.cons (a2s (σ:=t5 f ρ) rfl d1) (DenL.cons (u2 ρ f y v2 hf d2) (DenL.nil _))
     exact .agg this.1 this.2
    ·have:=u3 y n (hy.imp id (fun h=>by cases h))
     simp only[AV.sv,SV.ltB,ltL,z1x,z1j] at this ⊢
     exact this
   ·cases h
  ·cases h
 | u =>
  simp only[rdA] at h
  split at h
  ·cases h
   exact⟨.inl ⟨rfl,rfl⟩,fun ρ f x u _ hd=>a2s rfl hd,fun _ _ _=>rfl⟩
  ·cases h
 | po =>
  simp only[rdA] at h
  split at h
  ·rename_i N x
   split at h
   ·rename_i ps' q' l hr
    cases h
    obtain⟨u1,u2,u3⟩:=sl hr hp
    refine⟨?_,fun ρ f y u hf hd=>?_,fun y n hy=>?_⟩
    ·rcases u1 with⟨h,_⟩ | h
     ·simp[AV.blk] at h
     ·exact .inr h
    ·obtain⟨vs,rfl,hv⟩:=hd.agg_inv
     obtain⟨v1,w1,rfl,d1,e1⟩:=hv.inv
     obtain⟨v2,w2,rfl,d2,e2⟩:=e1.inv
     obtain rfl:=e2.inv_nil
     have:=DenL.cons (a2s (σ:=t5 f ρ) rfl d1) (DenL.cons (u2 ρ f y v2 hf d2) (DenL.nil _))
     exact .agg this.1 this.2
    ·have:=u3 y n (hy.imp id (fun h=>by cases h))
     simp only[AV.sv,SV.ltB,ltL,z1x,z1j] at this ⊢
     exact this
   ·cases h
  ·cases h
 | mp =>
  simp only[rdA] at h
  split at h
  ·rename_i r
   split at h
   ·rename_i k hk
    split at h
    ·rename_i f hf
     cases h
     refine⟨.inr ⟨.fmapp f,some r,rfl,rfl,trivial,rfl,.inl ⟨r,k,rfl,p9 hk,f,hf,fun _ _=>rfl⟩⟩,fun ρ g x u hg hd=>?_,fun x n hx=>?_⟩
     ·obtain⟨b,c,h1,rfl⟩:=hd.mp_inv
      exact .mp (c:=c) (by simp only[t5,hg _ rfl]; exact h1)
     ·rcases hx with hx | hx
      ·simpa [AV.sv,SV.ltB,z0u] using hx
      ·cases hx
    ·cases h
   ·cases h
  ·cases h
 | ev =>
  simp only[rdA] at h
  split at h
  ·cases h
   exact⟨.inl ⟨rfl,rfl⟩,fun ρ f x u _ hd=>a2s rfl hd,fun _ _ _=>rfl⟩
  ·cases h
 | es=>exact sl' h
 | rl=>exact sl' h
 | ps=>exact sl' h
 | is=>exact sl' h
 | bs=>exact sl' h
 | rs=>exact sl' h
 | us=>exact sl' h
def a3e:List (Option (Option Nat))→List (Option Nat)
 | []=>[]
 | some q :: r=>q :: a3e r
 | none :: r=>a3e r
theorem b3d {k:MBlk} {r:List MBlk} (h:a0f [k]=true) (h':a0f r=true):a0f (k :: r)=true:=by
 cases k <;> simp only[a0f,z1x,z0d] at h ⊢ <;> first | exact h' | exact⟨h,h'⟩ | cases h
theorem a5l {m:List MBlk}:∀ {ks:List AK} {vs:List SV} {ps:List Prop} {qs:List (Option (Option Nat))} {as:List AV},a6c m ks vs=some (ps,qs,as)→(∀ p∈ps,p)→∀(f:Nat→Option Nat) (i:Nat),(∀ j q,(a3e qs)[j]?=some q→f (i + j)=q) →
  (z5 as).length=(a3e qs).length∧(∀ ρ xs,DenL ρ vs xs→DenL (t5 f ρ) (a4a i as) xs)∧ltL (a4a i as) (i + (z5 as).length)=true∧a0f (z5 as)=true ∧
  ∀ j k0,(z5 as)[j]?=some k0→(∃ r k,f (i + j)=some r∧m[r]?=some k∧w7 k k0)∨(f (i + j)=none∧∃ cols,k0=.arr 0 cols):=by
 intro ks
 induction ks with
 | nil =>
  intro vs ps qs as h _ f i _
  cases vs <;> simp only[a6c] at h
  ·cases h
   exact⟨rfl,fun ρ xs h=>h.nilc,rfl,rfl,fun j k0 h=>by simp[z5] at h⟩
  ·cases h
 | cons k ks ih =>
  intro vs ps qs as h hp f i hf
  cases vs with
  | nil=>simp[a6c] at h
  | cons v vs =>
   simp only[a6c] at h
   split at h
   ·rename_i p q a ps' qs' as' ha has
    cases h
    have hr:=d3x ha (fun x hx=>hp x (z0n.2 (.inl hx)))
    rcases hr.use with⟨e1,e2⟩ | ⟨k0,q0,e1,e2,e3,e4,e5⟩
    ·subst e2
     obtain⟨h0,h1,h2,h3,h4⟩:=ih has (fun x hx=>hp x (z0n.2 (.inr hx))) f i hf
     have hu:a.use=0:=by simp[AV.use,e1]
     have hm:z5 (a :: as')=z5 as':=by simp[z5,e1]
     rw[hm]
     refine⟨h0,fun ρ xs hd=>?_,?_,h3,h4⟩
     ·obtain⟨u,us,rfl,d1,d2⟩:=hd.inv
      simp only[a4a,hu,z1i]
      exact DenL.cons (hr.den ρ f i u (fun q0 h=>by cases h) d1) (h1 ρ us d2)
     ·simp only[a4a,hu,z1i,ltL,z0d]
      exact⟨hr.lt i _ (.inr rfl),h2⟩
    ·subst e2
     have hu:a.use=1:=by simp[AV.use,e1]
     have hm:z5 (a :: as')=k0 :: z5 as':=by simp[z5,e1]
     have hf0:f i=q0:=by have:=hf 0 q0 rfl; simpa using this
     obtain⟨h0,h1,h2,h3,h4⟩:=ih has (fun x hx=>hp x (z0n.2 (.inr hx))) f (i + 1) (fun j q hq=>by rw[z2v,Nat.add_comm 1]; exact hf (j + 1) q (by simpa [a3e] using hq))
     rw[hm]
     refine⟨by simp[a3e,h0],fun ρ xs hd=>?_,?_,?_,fun j k1 hk1=>?_⟩
     ·obtain⟨u,us,rfl,d1,d2⟩:=hd.inv
      simp only[a4a,hu]
      exact DenL.cons (hr.den ρ f i u (fun q h=>by cases h; exact hf0) d1) (h1 ρ us d2)
     ·simp only[a4a,hu,ltL,z0d,z1g]
      exact⟨hr.lt i _ (.inl (by omega)),by rw[show i + ((z5 as').length + 1)=i + 1 + (z5 as').length by omega]; exact h2⟩
     ·exact b3d e4 h3
     ·cases j with
      | zero =>
       simp at hk1
       subst hk1
       simp only[z1i,hf0]
       exact e5
      | succ j =>
       have:=h4 j k1 (by simpa using hk1)
       rw[show i + 1 + j=i + (j + 1) by omega] at this
       exact this
   ·cases h
section
variable {P:Program} {E:Els} {G:List (Nat × Nat)} {fid:FuncId} {fn:Func}
theorem d2a {ks:List AK} {S:List AV→Option (List Prop × RV)} (hfn:P.funcs[fid]?=some fn) (hok:o8 P fid) (hres:∀ as pre rv,S as=some (pre,rv)→rv.ok=true∧(∀ t a,rv=.sl t a→a.cols≠[]))
  (hv:∀ as pre rv,S as=some (pre,rv)→(∀ p∈pre,p)→∃(T:Tab) (_:TabOk P T),T.globals=[]∧T.pins=[]∧n9 T fn (a4a 0 as) (z5 as) (rv.post E)):CallOk P G fid (a1g E [] ks S):=by
 refine b2e hfn hok fun m vs ar h hp=>?_
 unfold a1g at h
 split at h
 ·rename_i p1 qs as hr
  have hnm:∀(qs:List (Option (Option Nat))) (as:List AV) (p:List Prop) (as':List AV),z9 [] qs as=some (p,as')→p=[]∧as'=as:=by
   intro qs
   induction qs with
   | nil=>intro as p as' h; cases as <;> simp[z9] at h; exact h
   | cons q qs ih =>
    intro as p as' h
    cases as with
    | nil=>simp[z9] at h
    | cons a as =>
     have h0:a9d [] q a=some ([],a):=by cases q with | none=>rfl | some q=>cases q <;> simp[a9d,nth]
     simp only[z9,h0] at h
     split at h
     ·rename_i p2 a2 ps as2 h1 h2
      cases h1
      cases h
      obtain⟨e1,e2⟩:=ih as _ _ h2
      subst e1 e2
      exact⟨rfl,rfl⟩
     ·cases h
  split at h
  ·rename_i p2 as' hn
   obtain⟨rfl,rfl⟩:=hnm _ _ _ _ hn
   split at h
   ·rename_i p3 rv hS
    split at h
    ·rename_i p4 rv' hrv
     have hrv2:rv'=rv∧p4=[]:=by
      cases rv <;> simp[a7z,b71] at hrv <;> exact⟨hrv.2.symm,hrv.1⟩
     obtain⟨rfl,rfl⟩:=hrv2
     cases h
     have hpre:(rv'.ar E m.length (p1 ++ ([] ++ (p3 ++ [])))).pre=p1 ++ ([] ++ (p3 ++ [])):=by cases rv' <;> rfl
     rw[hpre] at hp
     have hp1:∀ p∈p1,p:=fun p h=>hp p (by simp[h])
     have hp3:∀ p∈p3,p:=fun p h=>hp p (by simp[h])
     obtain⟨T,hT,hg,hpn,hvc⟩:=hv _ _ _ hS hp3
     let f:Nat→Option Nat:=fun i=>(b8 none (a3e qs) i)
     have hf:∀ j q,(a3e qs)[j]?=some q→f (0 + j)=q:=fun j q hq=>by
      have hj:=(z0c.1 hq).1
      simp only[f,z1d]
      rw[s9 none _ _ hj]
      rw[z0i hj] at hq
      exact Option.some.inj hq
     obtain⟨_,h1,h2,h3,h4⟩:=a5l hr hp1 f 0 hf
     obtain⟨o1,o2⟩:=hres _ _ _ hS
     refine⟨T,hT,f,z5 as',a4a 0 as',fun ρ xs hd=>h1 ρ xs hd,by simpa using h2,h3,fun i k0 hk=>by
      have:=h4 i k0 hk
      rw[z1d] at this
      exact this.imp id .inl,fun g i hi=>(by rw[hg] at hi; cases hi),hpn,?_⟩
     cases rv' with
     | pl x=>exact .inl ⟨rfl,o1,hvc⟩
     | sl t a=>exact .inr (.inl ⟨t a.len,a.el E,a.len,a.cols,o1,List.length_pos_iff.2 (o2 t a rfl),rfl,rfl,hvc⟩)
     | mp f=>exact .inr (.inr (.inl ⟨f,rfl,rfl,hvc⟩))
     | tw x y z l =>
      simp only[RV.ok,z0d] at o1
      exact .inr (.inr (.inr ⟨_,fun n=>.tup [x,.agg [.sl (n + 1) l.length,.sl n l.length,z],y],b93 o1.1.1 o1.1.2 o1.2 (by simp[j6]),rfl,hvc⟩))
     | mi k k' f x=>exact .inr (.inr (.inr ⟨a9k k k' f x,fun n=>.tup [.mp n,x],b5o o1,rfl,hvc⟩))
    ·cases h
   ·cases h
  ·cases h
 ·cases h
theorem b3f {nm:List (Option AV)} {q:Option (Option Nat)} {a a':AV} {p:List Prop} (h:a9d nm q a=some (p,a')) (hp:∀ x∈p,x):a'=a:=by
  unfold a9d at h
  split at h
  · split at h
    · split at h <;> first | cases h | skip
      all_goals first
        | rfl
        | (have e:=hp _ (z0r.2 rfl)
           subst e
           rfl)
    · cases h; rfl
  · cases h; rfl
theorem a4d {nm:List (Option AV)}:∀ {qs:List (Option (Option Nat))} {as as':List AV} {p:List Prop},z9 nm qs as=some (p,as')→(∀ x∈p,x)→as'=as:=by
 intro qs
 induction qs with
 | nil=>intro as as' p h _; cases as <;> simp[z9] at h; exact h.2
 | cons q qs ih =>
  intro as as' p h hp
  cases as with
  | nil=>simp[z9] at h
  | cons a as =>
   simp only[z9] at h
   split at h
   ·rename_i p1 a1 ps as1 h1 h2
    cases h
    rw[b3f h1 (fun x hx=>hp x (z0n.2 (.inl hx))),ih h2 (fun x hx=>hp x (z0n.2 (.inr hx)))]
   ·cases h
theorem b8n {nm:List (Option AV)} {m:List MBlk} {rv rv':RV} {p:List Prop} (h:a7z nm m rv=some (p,rv')) (hp:∀ x∈p,x):rv'=rv:=by
 cases rv with
 | mi k k' f x=>simp[a7z] at h; exact h.2.symm
 | tw x y z l=>simp[a7z] at h; exact h.2.symm
 | pl x=>simp[a7z] at h; exact h.2.symm
 | sl t a =>
  simp only[a7z] at h
  split at h
  ·split at h
   ·rename_i h1
    cases h
    rw[b3f h1 hp]
   ·cases h
  ·cases h; rfl
 | mp f =>
  simp only[a7z] at h
  split at h
  ·cases h
   have e:=hp _ (z0r.2 rfl)
   rw[e]
  ·cases h; rfl
theorem a7x {ks:List AK} {S:List AV→Option (List Prop × RV)} {nm:List (Option AV)} (h:CallOk P G fid (a1g E [] ks S)):CallOk P G fid (a1g E nm ks S):=by
 refine⟨h.fn,fun ρ W m vs xs ar h1 h2 h3 h4 h5 h6 h7=>?_⟩
 unfold a1g at h6
 split at h6
 ·rename_i p1 qs as hr
  split at h6
  ·rename_i p2 as' hn
   split at h6
   ·rename_i p3 rv hS
    split at h6
    ·rename_i p4 rv' hrv
     cases h6
     have hpre:(rv'.ar E m.length (p1 ++ (p2 ++ (p3 ++ p4)))).pre=p1 ++ (p2 ++ (p3 ++ p4)):=by cases rv' <;> rfl
     rw[hpre] at h7
     have e1:=a4d hn (fun x hx=>h7 x (by simp[hx]))
     have e2:=b8n hrv (fun x hx=>h7 x (by simp[hx]))
     subst e1 e2
     have key:a1g E [] ks S m vs=some (rv'.ar E m.length (p1 ++ ([] ++ (p3 ++ [])))):=by
      have hnm:∀(qs:List (Option (Option Nat))) (as:List AV),qs.length=as.length→z9 [] qs as=some ([],as):=by
       intro qs
       induction qs with
       | nil=>intro as h; cases as <;> simp at h; rfl
       | cons q qs ih =>
        intro as h
        cases as with
        | nil=>simp at h
        | cons a as =>
         have h0:a9d [] q a=some ([],a):=by cases q with | none=>rfl | some q=>cases q <;> simp[a9d,nth]
         simp only[z9,h0,ih as (by simpa using h),z1f]
      have hlen:∀ {nm:List (Option AV)} {qs:List (Option (Option Nat))} {as as':List AV} {p:List Prop},z9 nm qs as=some (p,as')→qs.length=as.length:=by
       intro nm qs
       induction qs with
       | nil=>intro as as' p h; cases as <;> simp[z9] at h; rfl
       | cons q qs ih =>
        intro as as' p h
        cases as with
        | nil=>simp[z9] at h
        | cons a as =>
         simp only[z9] at h
         split at h
         ·rename_i h2; simp[ih h2]
         ·cases h
      have hR:a7z [] m rv'=some ([],rv'):=by cases rv' <;> rfl
      unfold a1g
      rw[hr]
      simp only[hnm _ _ (hlen hn),hS,hR]
     have a1:(rv'.ar E m.length (p1 ++ ([] ++ (p3 ++ [])))).sv=(rv'.ar E m.length (p1 ++ (p2 ++ (p3 ++ p4)))).sv:=by cases rv' <;> rfl
     have a2:(rv'.ar E m.length (p1 ++ ([] ++ (p3 ++ [])))).new=(rv'.ar E m.length (p1 ++ (p2 ++ (p3 ++ p4)))).new:=by cases rv' <;> rfl
     have a3:(rv'.ar E m.length (p1 ++ ([] ++ (p3 ++ [])))).pre=p1 ++ ([] ++ (p3 ++ [])):=by cases rv' <;> rfl
     rw[← a1,← a2]
     exact h.ok ρ W m vs xs _ h1 h2 h3 (by rw[a2]; exact h4) h5 key (fun p hp=>by rw[a3] at hp; exact h7 p (by simp at hp; rcases hp with hp | hp <;> simp[hp]))
    ·cases h6
   ·cases h6
  ·cases h6
 ·cases h6
end
def eqA (n:Nat) (c:List Col):Prop:=n=n∧a1a n c c
theorem b9a (n:Nat) (len:Nat→Nat):∀ gs:List (Nat→Nat→Int),a66 n len gs gs:=by
 intro gs
 induction gs with
 | nil=>trivial
 | cons g r ih=>exact⟨fun _ _ _ _=>rfl,ih⟩
theorem c0b (n:Nat) (c:Col):a8w n c c:=by
 cases c with
 | int k g=>cases k <;> exact fun _ _=>rfl
 | bool g=>exact fun _ _=>rfl
 | rows len gs=>exact⟨fun _ _=>rfl,b9a n len gs⟩
 | any=>trivial
theorem b7y (n:Nat):∀ c:List Col,a1a n c c:=by
 intro c
 induction c with
 | nil=>trivial
 | cons x r ih=>exact⟨c0b n x,ih⟩
theorem j8 (n:Nat) (c:List Col):eqA n c=True:=eq_true ⟨rfl,b7y n c⟩
def nE (E:List Ev):Prop:=mkN (fun j=>b8 e0 E j) E.length=E
def nI (R:List Int):Prop:=mkN (b8 (0:Int) R) R.length=R
def nR (M:List (List Int)):Prop:=mkN (fun j=>mkN (fun i=>b8 (0:Int) (b8 [] M j) i) (b8 [] M j).length) M.length=M
theorem m6 (E:List Ev):nE E=True:=eq_true (o0 E)
theorem m7 (R:List Int):nI R=True:=eq_true (g8 0 R)
theorem m8 (M:List (List Int)):nR M=True:=eq_true (n5 M)
def eqP (l:List Pq):Prop:=eqA (AV.ps l).len (AV.ps l).cols
theorem l5 (l:List Pq):eqP l=True:=j8 _ _
def c2o (k:IntKind) (k':Option IntKind) (f:Int→Option Int):SV→List MBlk→Prop:=fun sv m=>match sv with
 | .mp r=>(match nth m r with
  | some (.mapi k2 k2' f')=>bif kEq k2 k && oEq k2' k' then(∀ j,f' j=f j) else False
  | _=>False)
 | _=>False
theorem d06 {k:IntKind} {k':Option IntKind} {f:Int→Option Int}:b2a (c2o k k' f) (fun base=>.mp base) [.mapi k k' f]:=fun ρ W W' base v ρ' m' sv hS hd hm hx'=>by
 refine⟨Keeps.callee hm,?_⟩
 unfold c2o at hx'
 split at hx'
 ·rename_i r
  split at hx'
  ·rename_i k2 k2' f' hk
   cases hkk:(kEq k2 k && oEq k2' k')
   ·rw[hkk] at hx'; exact hx'.elim
   rw[hkk] at hx'
   simp only[z0f] at hx'
   simp only[z0d] at hkk
   obtain rfl:=u4.1 hkk.1
   obtain rfl:=a62.1 hkk.2
   have hff:f'=f:=funext fun x=>hx' x
   subst hff
   have hkr:=p9 hk
   obtain⟨g,c,hρ,rfl⟩:=hd.mp_inv
   have hb:=hm.blk r _ hkr (by rw[hρ]; simp)
   have hge:W.heap.size≤g:=z1z fun hlt=>(t9 hb rfl hρ).1 (hm.sub _ hlt)
   obtain⟨g',es,clock,c',h1,h2,h3,h4⟩:=hb
   rw[hρ] at h1
   simp only[z0a,z0g,z2a,and_true] at h1
   obtain⟨rfl,rfl⟩:=h1
   refine⟨ρ.with base (some ⟨g,0,none⟩,c),fun r hr=>Env.with_ne _ _ (by intro e; simp at hr; omega),.with _ _ _ _ _,.mp (Env.with_same _ _ _),⟨fun j b hj _=>?_,fun j b a c hj ho hx=>?_,fun j l b d a c x y hj hl _ _ _ _ _=>?_⟩⟩
   ·have:j=0:=by have:=(z0c.1 hj).1; simpa using this
    subst this
    simp at hj
    subst hj
    exact⟨g,es,clock,c,Env.with_same _ _ _,fun hs=>by have:=hS _ hs; omega,h3,h4⟩
   ·have:j=0:=by have:=(z0c.1 hj).1; simpa using this
    subst this
    simp only[z1i,Env.with_same,z0a,z0g] at hx
    rw[← hx.1]
    exact hge
   ·have h1:=(z0c.1 hj).1
    have h2:=(z0c.1 hl).1
    simp at h1 h2
    omega
  ·exact hx'.elim
 ·exact hx'.elim
end Go.Proofs.YtaeeaniofljmnaaGreatDoor.Sx
