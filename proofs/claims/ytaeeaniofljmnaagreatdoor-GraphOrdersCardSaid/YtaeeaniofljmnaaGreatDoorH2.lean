/-
  A part of the proof (H2).
-/
import Derived.Test.YtaeeaniofljmnaaGreatDoorTx18
import Derived.Test.YtaeeaniofljmnaaGreatDoorRows
namespace Go.Proofs.YtaeeaniofljmnaaGreatDoor
set_option linter.unusedSimpArgs false
set_option linter.unusedVariables false
open Go Go.Proofs.YtaeeaniofljmnaaGreatDoor.Sx
set_option maxRecDepth 100000
def a7g:List (Nat × TI):=[
(3,⟨0,1,8,[.i .i64 0],[],0,0,some IntKind.i64,none,[]⟩),
(4,⟨5,1,1,[SV.ff],[],0,0,none,none,[]⟩),
(5,⟨0,1,1,[.i .u8 0],[],0,0,some IntKind.u8,none,[]⟩),
(6,⟨0,1,1,[.i .u8 0],[],0,0,some IntKind.u8,none,[]⟩),
(9,⟨6,1,16,[],[],0,0,none,none,[]⟩),
(22,⟨3,1,24,[SV.nilsl],[],85,9,none,none,[]⟩),
(23,⟨3,1,24,[SV.nilsl],[],3,1,none,none,[]⟩),
(24,⟨3,1,24,[SV.nilsl],[],23,1,none,none,[]⟩),
(26,⟨1,3,72,[SV.nilsl,SV.nilsl,SV.nilsl],[(0,1),(1,1),(2,1)],0,0,none,none,[false,false,false]⟩),
(29,⟨3,1,24,[SV.nilsl],[],67,2,none,none,[]⟩),
(31,⟨1,2,32,[.i .i64 0,SV.nilsl],[(0,1),(1,1)],0,0,none,none,[false,false]⟩),
(32,⟨0,1,8,[.i .i64 0],[],0,0,some IntKind.i64,none,[]⟩),
(67,⟨2,2,16,[.i .i64 0,.i .i64 0],[],3,2,none,some [some IntKind.i64,some IntKind.i64],[]⟩),
(72,⟨0,1,8,[SV.dead],[],0,0,none,none,[]⟩),
(76,⟨0,1,8,[SV.dead],[],0,0,none,none,[]⟩),
(77,⟨0,1,8,[SV.dead],[],0,0,none,none,[]⟩),
(79,⟨0,1,8,[SV.dead],[],0,0,none,none,[]⟩),
(82,⟨0,1,8,[.i .i64 0],[],0,0,some IntKind.i64,none,[]⟩),
(83,⟨0,1,8,[.i .i64 0],[],0,0,some IntKind.i64,none,[]⟩),
(85,⟨1,9,72,[.i .i64 0,.i .i64 0,.i .i64 0,.i .i64 0,.i .i64 0,.i .i64 0,.i .i64 0,.i .i64 0,.i .i64 0],[(0,1),(1,1),(2,1),(3,1),(4,1),(5,1),(6,1),(7,1),(8,1)],0,0,none,some [some IntKind.i64,some IntKind.i64,some IntKind.i64,some IntKind.i64,some IntKind.i64,some IntKind.i64,some IntKind.i64,some IntKind.i64,some IntKind.i64],[false,false,false,false,false,false,false,false,false]⟩),
(93,⟨0,1,8,[SV.dead],[],0,0,none,none,[]⟩),
(98,⟨4,1,8,[SV.nilmap],[],3,4,none,none,[]⟩),
(99,⟨4,1,8,[SV.nilmap],[],3,3,none,none,[]⟩),
(108,⟨4,1,8,[SV.nilmap],[],111,3,none,none,[]⟩),
(111,⟨1,2,16,[.i .i64 0,.i .i64 0],[(0,1),(1,1)],0,0,none,some [some IntKind.i64,some IntKind.i64],[false,false]⟩),
(124,⟨0,1,8,[SV.dead],[],0,0,none,none,[]⟩),
(126,⟨0,1,8,[SV.dead],[],0,0,none,none,[]⟩),
(127,⟨0,1,8,[SV.dead],[],0,0,none,none,[]⟩),
(129,⟨3,1,24,[SV.nilsl],[],31,2,none,none,[]⟩),
(130,⟨0,1,8,[SV.dead],[],0,0,none,none,[]⟩),
(133,⟨3,1,24,[SV.nilsl],[],4,1,none,none,[]⟩),
(157,⟨0,1,8,[SV.dead],[],0,0,none,none,[]⟩),
(118,⟨0,1,8,[SV.dead],[],0,0,none,none,[]⟩),
(136,⟨4,1,8,[SV.nilmap],[],67,4,none,none,[]⟩),
(160,⟨1,8,64,[.i .i64 0,SV.ff,.i .i64 0,.i .i64 0,SV.ff,.i .i64 0,.i .i64 0,SV.ff],[(0,1),(1,1),(2,1),(3,1),(4,1),(5,1),(6,1),(7,1)],0,0,none,none,[]⟩),
(161,⟨2,136,1088,[],[],160,17,none,none,[]⟩)]
theorem tys:∀ t ti,i6 a7g t=some ti→a0z Tryz.prog t ti=true:=by
 intro t ti h
 have key:(a7g.all fun p=>a0z Tryz.prog p.1 p.2)=true:=by kernel_rfl
 exact z2l.1 key _ (y6 h)
theorem ints:∀ t ti,i6 a7g t=some ti→a62 Tryz.prog t ti=true:=by
 intro t ti h
 have key:(a7g.all fun p=>a62 Tryz.prog p.1 p.2)=true:=by kernel_rfl
 exact z2l.1 key _ (y6 h)
theorem mixed:Tryz.prog.follows .mixedOrders=true:=by kernel_rfl
abbrev a25:=List (Nat × (List MBlk→List SV→Option AR))
abbrev b9x:=List (Nat × Inl)
def tab (calls:a25) (loops:List (Nat × PLoop)):Tab:=⟨a7g,[],calls,loops,[],[],[],[],[],none,false⟩
theorem a4e {calls:a25} {loops:List (Nat × PLoop)} (h:∀ p∈calls,CallOk Tryz.prog [] p.1 p.2):TabOk Tryz.prog (tab calls loops):=⟨mixed,tys,ints,fun _ _ hf=>h _ (y6 hf),fun _ _ hf=>(by cases hf),fun _ _ hf=>(by cases hf),fun _ hf=>by cases hf⟩
theorem b1o {f:Nat} {F:List MBlk→List SV→Option AR} {r:a25} (h:CallOk Tryz.prog [] f F) (h':∀ p∈r,CallOk Tryz.prog [] p.1 p.2):∀ p∈(f,F) :: r,CallOk Tryz.prog [] p.1 p.2:=fun p hp=>by
 rcases z0r.1 hp with rfl | h1
 ·exact h
 ·exact h' p h1
theorem a65:∀ p∈([]:a25),CallOk Tryz.prog [] p.1 p.2:=fun p hp=>by cases hp
def a09:List Int:=[7,7,7,7,7,7,0,7,3,3,3,3,3,3,3,-1,-1]
def a1v:List Bool:=[true,true,true,false,true,true,false,true,false,false,false,false,false,false,false,false,false]
def a2f:List Int:=[-2147483648,0,0,0,-2147483648,-2147483648,0,-2147483648,0,0,0,0,0,0,0,0,0]
def a08:List Int:=[2147483647,0,0,0,2147483647,2147483647,0,2147483647,0,0,1,0,0,1,-1,0,0]
def y4:List Bool:=[false,true,true,true,true,false,false,false,false,false,false,false,false,false,false,false,false]
def y3:List Int:=[-1,-2,0,0,-2,-2,-2,-1,-2,-2,-2,-2,-2,-2,-2,-2,-2]
def a32:List Int:=[1,1,4,1,1,1,0,1,2,2,2,3,3,3,3,0,0]
def a04:List Bool:=[false,true,true,true,true,false,false,false,true,true,true,true,true,true,true,false,false]
def tbl:MBlk:=.arr 17 [.int .i64 (e8 a09),.bool (o9 a1v),.int .i64 (e8 a2f),.int .i64 (e8 a08),.bool (o9 y4),.int .i64 (e8 y3),.int .i64 (e8 a32),.bool (o9 a04)]
def w64 (n:Int):Int:=IntKind.i64.wrap n
def t8 (n m:Int):Bool:=decide (n ≥ 0) && decide (n < m)
def a17 (n:Int):Bool:=decide (n ≥ -2147483648) && decide (n≤2147483647)
def a4h (k:Int):Bool:=k == 1 || k == 2 || k == 3 || k == 5 || k == 6 || k == 8
def a02 (k:Int):Bool:=k == 1 || k == 8 || k == 5 || k == 6
def a0a (k:Int):Bool:=k == 2 || k == 3 || k == 4 || k == 5
def a1k (e:Ev):Bool:=bif e.k == 7 then e.ob == 0 else bif e.k == 9 || e.k == 10 || e.k == 11 then t8 e.ob 4 else bif e.k == 12 || e.k == 13 || e.k == 14 || e.k == 15 then t8 e.ob 4 else bif e.k == 16 || e.k == 17 then decide (e.ob ≥ 0) else t8 e.ob 8
def a3g (e:Ev):Bool:=bif e.k == 11 || e.k == 14 then t8 e.rd 2 else bif e.k == 15 then decide (e.rd ≥ 0) else a17 e.rd && (a02 e.k || e.rd == 0)
def a37 (e:Ev):Bool:=bif e.k == 1 || e.k == 8 then decide (e.en ≥ -1) else bif e.k == 3 || e.k == 4 then decide (e.en ≥ 0) else e.en == -1
def q6 (e:Ev):Bool:=
 decide (1≤e.k) && decide (e.k≤17) && (decide (e.ag < 0) == (e.k == 4)) && decide (0≤e.ix) && a1k e && a3g e && a37 e &&
 decide (0≤e.od) && decide (e.od≤2) && (a4h e.k || e.od == 0) && a17 e.wr && (a0a e.k || e.wr == 0) &&
 (bif e.k == 12 then t8 e.mu 4 else e.mu == -1)
def EL:Els:=⟨67,3,4,23,0,85,31⟩
theorem a4c {n:Int} (h : -9223372036854775808≤n) (h':n≤9223372036854775807):IntKind.i64.wrap n=n:=by
 simp only[IntKind.wrap,IntKind.signed,IntKind.bits]
 simp
 omega
theorem wrS {n i:Nat} (h:i < n) (hn:n≤1099511627776):IntKind.i64.wrap ((i:Int) + 1)=((i + 1:Nat):Int):=by
 rw[a4c (by omega) (by omega)]; omega
def GL:List (Nat × Nat):=[(0,0)]
def gbT:Option (Nat × MBlk):=some (0,tbl)
structure Kit where
 g:Bool:=false
 calls:a25:=[]
 loops:List (Nat × PLoop):=[]
 inl:b9x:=[]
 takes:List (Nat × (List Slot→List MBlk→List Gh)):=[]
 sure:List Nat:=[]
def Kit.gl (k:Kit):List (Nat × Nat):=match k.g with
 | true=>GL
 | false=>[]
def Kit.tab (k:Kit):Tab:=⟨a7g,k.gl,k.calls,k.loops,[],[],k.takes,k.sure,k.inl,none,false⟩
def a2e (p:Nat × Inl):Prop:=Tryz.prog.funcs[p.1]?=some p.2.fn∧o6 Tryz.prog p.1
theorem Kit.ok {k:Kit} (h:∀ p∈k.calls,CallOk Tryz.prog k.gl p.1 p.2) (hi:∀ p∈k.inl,a2e p):TabOk Tryz.prog k.tab:=⟨mixed,tys,ints,fun _ _ hf=>h _ (y6 hf),fun _ _ hf=>(by cases hf),fun _ _ hf=>hi _ (y6 hf),fun _ hf=>by cases hf⟩
theorem t7:∀ p∈([]:b9x),a2e p:=fun p hp=>by cases hp
theorem a3f {x:Nat × Inl} {r:b9x} (h:a2e x) (h':∀ p∈r,a2e p):∀ p∈x :: r,a2e p:=fun p hp=>by
 rcases z0r.1 hp with rfl | h1
 ·exact h
 ·exact h' p h1
theorem t6 {G:List (Nat × Nat)}:∀ p∈([]:a25),CallOk Tryz.prog G p.1 p.2:=fun p hp=>by cases hp
theorem m4 {G:List (Nat × Nat)} {f:Nat} {F:List MBlk→List SV→Option AR} {r:a25} (h:CallOk Tryz.prog G f F) (h':∀ p∈r,CallOk Tryz.prog G p.1 p.2):∀ p∈(f,F) :: r,CallOk Tryz.prog G p.1 p.2:=fun p hp=>by
 rcases z0r.1 hp with rfl | h1
 ·exact h
 ·exact h' p h1
def eqT:Prop:=eqA 17 [.int .i64 (e8 a09),.bool (o9 a1v),.int .i64 (e8 a2f),.int .i64 (e8 a08),.bool (o9 y4),.int .i64 (e8 y3),.int .i64 (e8 a32),.bool (o9 a04)]
theorem j8:eqT=True:=j4 _ _
theorem i5 (l:List Nat):i7 l tbl=tbl:=rfl
theorem c3o:x7 tbl tbl:=⟨_,rfl,by simp[tbl,a1h,a8x,kEq]⟩
theorem x4 {G:List (Nat × Nat)} {fid:FuncId} {fn:Func} {ks:List PK} {nm:List (Option AV)} {S:List PV→Option (List Prop × QV)} (hfn:Tryz.prog.funcs[fid]?=some fn) (hok:o6 Tryz.prog fid)
  (hv:∀ av pre rv,S av=some (pre,rv)→(rv.ok=true∧∀ t a,rv=.rv (.sl t a)→a.cols≠[])∧((∀ p∈pre,p)→∃ k:Kit,n7 k.tab fn (a8n 0 av) (a2l 0 av) (rv.post EL)∧k.g=false∧(∀ p∈k.calls,CallOk Tryz.prog [] p.1 p.2)∧∀ p∈k.inl,a2e p)):CallOk Tryz.prog G fid (n6 EL none nm ks S):=
 c5t hfn hok (fun g k h=>by cases h) (fun av pre rv h=>(hv av pre rv h).1) fun av pre rv h hp=>by
  obtain⟨k,h1,h2,h3,h4⟩:=(hv av pre rv h).2 hp
  exact⟨k.tab,Kit.ok (by rw[Kit.gl,h2]; exact h3) h4,by simp[Kit.tab,Kit.gl,h2,gbG],rfl,h1⟩
theorem a4r {fid:FuncId} {fn:Func} {ks:List PK} {nm:List (Option AV)} {S:List PV→Option (List Prop × QV)} (hfn:Tryz.prog.funcs[fid]?=some fn) (hok:o6 Tryz.prog fid)
  (hv:∀ av pre rv,S av=some (pre,rv)→(rv.ok=true∧∀ t a,rv=.rv (.sl t a)→a.cols≠[])∧((∀ p∈pre,p)→∃ k:Kit,n7 k.tab fn (a8n 1 av) (tbl :: a2l 1 av) (rv.post EL)∧k.g=true∧(∀ p∈k.calls,CallOk Tryz.prog GL p.1 p.2)∧∀ p∈k.inl,a2e p)):CallOk Tryz.prog GL fid (n6 EL gbT nm ks S):=
 c5t hfn hok (fun g k h=>by cases h; exact⟨rfl,rfl,c3o⟩) (fun av pre rv h=>(hv av pre rv h).1) fun av pre rv h hp=>by
  obtain⟨k,h1,h2,h3,h4⟩:=(hv av pre rv h).2 hp
  exact⟨k.tab,Kit.ok (by rw[Kit.gl,h2]; exact h3) h4,by simp[Kit.tab,Kit.gl,h2,gbG,gbT,GL],rfl,h1⟩
abbrev Pf:=Int→Int→Bool
def inR (N:Int) (p:Pq):Bool:=!(decide (p.1 < 0) || decide (p.1 ≥ N) || decide (p.2 < 0) || decide (p.2 ≥ N))
def inB (N:Int):Bool:=!(decide (N < 0) || decide (N > 64))
def d8 (N:Int) (l:List Pq):Bool:=inB N && l.all (inR N)
def L9 {α:Type} (l:List α):Prop:=l.length≤1099511627776
def d9 (l:List Pq):Pf:=fun a b=>l.any (fun p=>p.1 == a && p.2 == b)
def d7 (f:Pf) (a k:Nat):List Pq:=((List.range k).filter (fun b:Nat=>f a b)).map (fun(b:Nat)=>((a:Int),(b:Int)))
def b9 (f:Pf) (n k:Nat):List Pq:=(List.range k).flatMap (fun a=>d7 f a n)
def b7 (N:Int) (f:Pf):List Pq:=b9 f N.toNat N.toNat
def d0q (n:Nat) (f:Pf):List Bool:=mkN (fun i=>f ((i / n:Nat):Int) ((i % n:Nat):Int)) (n * n)
abbrev Sp:=List AV→Option (List Prop × RV)
def b3q (N:Int):Nat→SV:=fun k=>.agg [.i .i64 N,.sl 0 k]
def b4v:Sp:=fun | [.r N l]=>some ([L9 l],.pl (.b (d8 N l))) | _=>none
def c7z:Sp:=fun | [.r _ l]=>some ([L9 l],.mp (d9 l)) | _=>none
def c7v:Sp:=fun | [.i n,.mp f]=>some ([0≤n∧n≤64],.sl (b3q n) (.ps (b7 n f))) | _=>none
def c7t:Sp:=fun | [.r N l,.i a,.i b]=>some ([L9 l],.pl (.b (d8 N l && d9 l a b))) | _=>none
def c7u:Sp:=fun | [.r N l]=>some ([L9 l],.sl (b3q (bif d8 N l then N else 0)) (.ps (bif d8 N l then b7 N (d9 l) else []))) | _=>none
def b6n (nm:List (Option AV)):Nat × (List MBlk→List SV→Option AR):=(119,a1p EL nm [.r] b4v)
def c5y (nm:List (Option AV)):Nat × (List MBlk→List SV→Option AR):=(103,a1p EL nm [.r] b4v)
def c3m (nm:List (Option AV)):Nat × (List MBlk→List SV→Option AR):=(148,a1p EL nm [.r] c7z)
def b6m (nm:List (Option AV)):Nat × (List MBlk→List SV→Option AR):=(147,a1p EL nm [.i,.mp] c7v)
def c3k (nm:List (Option AV)):Nat × (List MBlk→List SV→Option AR):=(109,a1p EL nm [.r] c7u)
def p9 (n t:Nat) (P:Nat→Prop) (mem:Nat→List (Nat × MBlk)) (kill:List Nat):LAnn where
 X:=Nat
 inv:=fun i=>i≤n∧P i
 slots:=fun i=>[(t,.i .i64 (i:Int))]
 mem:=mem
 mu:=fun i=>n - i
 kill:=kill
def a7q (N:Int) (l:List Pq) (t:Nat):LAnn:=p9 l.length t (fun i=>(l.take i).all (inR N)=true) (fun _=>[]) []
def b36 (l:List Pq) (t e:Nat):LAnn:=p9 l.length t (fun _=>True) (fun i=>[(e,.mapp (d9 (l.take i)))]) []
def b8v (e:Nat) (l:List Pq):Nat × MBlk:=(e,.oarr 67 l.length (a1a l))
def b35 (n:Int) (f:Pf) (t:Nat):LAnn:=p9 n.toNat t (fun _=>True) (fun a=>[(2,.cells [.i .i64 n,.sl 3 (b9 f n.toNat a).length]),b8v 3 (b9 f n.toNat a)]) [3]
def b07 (n:Int) (f:Pf) (t:Nat):PLoop:=⟨Nat,fun a=>p9 n.toNat t (fun _=>a < n.toNat) (fun b=>[(2,.cells [.i .i64 n,.sl 3 (b9 f n.toNat a ++ d7 f a b).length]),b8v 3 (b9 f n.toNat a ++ d7 f a b)]) [3]⟩
def c3t (N:Int) (l:List Pq) (t e:Nat):LAnn:=p9 l.length t (fun _=>True) (fun i=>[(e,.oarr 4 (N.toNat * N.toNat) (a9z (d0q N.toNat (d9 (l.take i)))))]) []
def b34 (l:List Pq) (a b:Int) (t:Nat):LAnn:=p9 l.length t (fun i=>d9 (l.take i) a b=false) (fun _=>[]) []
def d0m (calls:a25) (loops:List (Nat × PLoop)) (id:Nat) (g:List Gh):Tab:=⟨a7g,[],calls,loops,[],[],[(id,fun _ _=>g)],[],[],none,false⟩
theorem d53 {calls:a25} {loops:List (Nat × PLoop)} {id:Nat} {g:List Gh} (h:∀ p∈calls,CallOk Tryz.prog [] p.1 p.2):TabOk Tryz.prog (d0m calls loops id g):=⟨mixed,tys,ints,fun _ _ hf=>h _ (y6 hf),fun _ _ hf=>(by cases hf),fun _ _ hf=>(by cases hf),fun _ hf=>by cases hf⟩
def arP (l:List Pq):MBlk:=.arr l.length (a1a l)
def rlV (N:Int) (x:Nat) (l:List Pq):SV:=.agg [.i .i64 N,.sl x l.length]
def i9 (c:Bool) (l:List Pq):List Pq:=bif c then l else []
theorem a6e {α:Type} (d:α) {l:List α} {i:Nat} (h:i < l.length):l.take (i + 1)=l.take i ++ [b6 d l i]:=by
 rw[q8 d l i h,List.take_add_one,z0i h]; rfl
theorem a9h {α:Type} (d:α) {l l':List α} {j:Nat} (h:j < l.length):b6 d (l ++ l') j=b6 d l j:=by
 rw[q8 d _ _ (by simp; omega),q8 d _ _ h,List.getElem_append_left h]
theorem b1w {α:Type} (d:α) {l:List α} {x:α}:b6 d (l ++ [x]) l.length=x:=by
 rw[q8 d _ _ (by simp)]; simp
theorem c9l {α:Type} (d:α) {l l':List α} {j:Nat} (h:l.length≤j):b6 d (l ++ l') j=b6 d l' (j - l.length):=by
 by_cases h2:j - l.length < l'.length
 ·rw[q8 d _ _ (by simp; omega),q8 d _ _ h2,List.getElem_append_right h]
 ·rw[nthD_out d _ _ (by simp; omega),nthD_out d _ _ (by omega)]
theorem c5e {a b:Nat} (h:a < b):Nat.blt a b=true:=by rw[z0y]; exact h
theorem c5d {a b:Nat} (h:¬ a < b):Nat.blt a b=false:=z0x.2 fun e=>h (by rwa [z0y] at e)
theorem d29 {a:Nat}:Nat.beq a a=true:=z3a a
theorem d28 {a b:Nat} (h:a≠b):Nat.beq a b=false:=z0x.2 fun e=>h (z0b e)
theorem ap1 (F:Pq→Int) (l:List Pq) (x:Pq):∀ j,j < (l ++ [x]).length→(bif Nat.blt j l.length then F (b6 (0,0) l j) else e8 [F x] (j - l.length))=F (b6 (0,0) (l ++ [x]) j):=fun j hj=>by
 by_cases h:j < l.length
 ·rw[c5e h,z0g,a9h _ h]
 ·have:j=l.length:=by simp at hj; omega
  subst this
  rw[c5d h,z0l,b1w]
  rfl
theorem ap2 (F:Pq→Int) (l l':List Pq):∀ j,(bif Nat.blt j l.length then F (b6 (0,0) l j) else F (b6 (0,0) l' (j - l.length)))=F (b6 (0,0) (l ++ l') j):=fun j=>by
 by_cases h:j < l.length
 ·rw[c5e h,z0g,a9h _ h]
 ·rw[c5d h,z0l,c9l _ (by omega)]
theorem a4v {l:List Pq} {a b:Int}:d9 l a b=true↔(a,b)∈l:=by
 simp only[d9,List.any_eq_true,z0d,beq_iff_eq]
 constructor
 ·rintro ⟨p,hp,rfl,rfl⟩; exact hp
 ·intro h; exact⟨_,h,rfl,rfl⟩
@[simp] theorem d8f:d9 []=fun _ _=>false:=rfl
theorem b40 {l l':List Pq} {a b:Int}:d9 (l ++ l') a b=(d9 l a b || d9 l' a b):=by simp[d9]
theorem c86 {p:Pq} {a b:Int}:d9 [p] a b=(a == p.1 && b == p.2):=by
 simp only[d9,List.any_cons,List.any_nil,Bool.or_false]
 rw[z2w]; simp; constructor <;> rintro ⟨rfl,rfl⟩ <;> exact⟨rfl,rfl⟩
theorem b5p {l:List Pq} {i:Nat} (h:i < l.length) (a b:Int):d9 (l.take (i + 1)) a b=((a == (b6 (0,0) l i).1 && b == (b6 (0,0) l i).2) || d9 (l.take i) a b):=by
 rw[a6e (0,0) h,b40,c86,Bool.or_comm]
theorem a3s (f:Pf) (a:Nat):d7 f a 0=[]:=rfl
theorem z4 (f:Pf) (a k:Nat):d7 f a (k + 1)=d7 f a k ++ (if f a k=true then [((a:Int),(k:Int))] else []):=by
 unfold d7
 rw[List.range_succ,List.filter_append,List.map_append]
 congr 1
 by_cases h:f a k=true <;> simp[h]
theorem a26 (f:Pf) (n:Nat):b9 f n 0=[]:=rfl
theorem a15 (f:Pf) (n k:Nat):b9 f n (k + 1)=b9 f n k ++ d7 f k n:=by
 unfold b9
 rw[List.range_succ,List.flatMap_append]; simp
theorem a9o (f:Pf) (a k:Nat):(d7 f a k).length≤k:=by
 unfold d7
 rw[z3o]
 exact Nat.le_trans (List.length_filter_le _ _) (by simp)
theorem a2j (f:Pf) (n:Nat):∀ k,(b9 f n k).length≤k * n:=by
 intro k
 induction k with
 | zero=>simp[a26]
 | succ k ih=>rw[a15,z1a,z3g]; have:=a9o f k n; omega
theorem a72 {f:Pf} {a k:Nat} {p:Pq}:p∈d7 f a k↔∃ b,b < k∧f a b=true∧p=((a:Int),(b:Int)):=by
 simp only[d7,z2h,List.mem_filter,z2q]
 constructor
 ·rintro ⟨b,⟨h1,h2⟩,rfl⟩; exact⟨b,h1,h2,rfl⟩
 ·rintro ⟨b,h1,h2,rfl⟩; exact⟨b,⟨h1,h2⟩,rfl⟩
theorem b8l {f:Pf} {n k:Nat} {p:Pq}:p∈b9 f n k↔∃ a b,a < k∧b < n∧f a b=true∧p=((a:Int),(b:Int)):=by
 simp only[b9,List.mem_flatMap,z2q,a72]
 constructor
 ·rintro ⟨a,h1,b,h2,h3,h4⟩; exact⟨a,b,h1,h2,h3,h4⟩
 ·rintro ⟨a,b,h1,h2,h3,h4⟩; exact⟨a,h1,b,h2,h3,h4⟩
theorem c19 {f g:Pf} {a k:Nat} (h:∀ b,b < k→f a b=g a b):d7 f a k=d7 g a k:=by
 unfold d7
 congr 1
 apply List.filter_congr
 intro b hb
 exact h b (z2q.1 hb)
theorem c00 {f g:Pf} {n k:Nat} (h:∀ a b,a < k→b < n→f a b=g a b):b9 f n k=b9 g n k:=by
 induction k with
 | zero=>rfl
 | succ k ih=>rw[a15,a15,ih (fun a b ha hb=>h a b (by omega) hb),c19 (fun b hb=>h k b (by omega) hb)]
theorem b18 {f g:Pf} {N:Int} (h:∀ a b:Nat,(a:Int) < N→(b:Int) < N→f a b=g a b):b7 N f=b7 N g:=c00 fun a b ha hb=>h a b (by omega) (by omega)
theorem a7m {f:Pf} {N a b:Int}:d9 (b7 N f) a b=true↔0≤a∧a < N∧0≤b∧b < N∧f a b=true:=by
 rw[a4v,b7,b8l]
 constructor
 ·rintro ⟨x,y,h1,h2,h3,h4⟩
  simp only[z0f] at h4
  obtain⟨rfl,rfl⟩:=h4
  exact⟨by omega,by omega,by omega,by omega,h3⟩
 ·rintro ⟨h1,h2,h3,h4,h5⟩
  refine⟨a.toNat,b.toNat,by omega,by omega,?_,?_⟩
  ·rw[z1b h1,z1b h3]; exact h5
  ·rw[z1b h1,z1b h3]
theorem z5 {N:Int} {l:List Pq}:d8 N l=true↔0≤N∧N≤64∧∀ p∈l,0≤p.1∧p.1 < N∧0≤p.2∧p.2 < N:=by
 simp only[d8,inB,inR,z0d,z0v,z1n,z1g,z2l]
 constructor
 ·rintro ⟨⟨h1,h2⟩,h3⟩
  exact⟨by omega,by omega,fun p hp=>by obtain⟨⟨⟨q1,q2⟩,q3⟩,q4⟩:=h3 p hp; omega⟩
 ·rintro ⟨h1,h2,h3⟩
  exact⟨⟨by omega,by omega⟩,fun p hp=>by obtain⟨q1,q2,q3,q4⟩:=h3 p hp; exact⟨⟨⟨by omega,by omega⟩,by omega⟩,by omega⟩⟩
theorem b1x {l:List Pq} {i:Nat} (h:i < l.length):b6 (0,0) l i∈l:=by rw[q8 _ _ _ h]; exact z2e h
@[simp] theorem b48 (n:Nat) (f:Pf):(d0q n f).length=n * n:=g9 _ _
theorem d8g {n:Nat} (h:n≤64):n * n≤4096:=z2v h h
theorem b28 {n:Nat} {i:Nat} (h:(i:Int) < (n:Int)) (hn:n≤1099511627776):IntKind.i64.wrap ((i:Int) + 1)=((i + 1:Nat):Int):=wrS (by omega) hn
theorem b7p {N:Int} {l:List Pq} {i:Nat} (h:i < l.length):(l.take (i + 1)).all (inR N)=((l.take i).all (inR N) && inR N (b6 (0,0) l i)):=by
 rw[a6e (0,0) h,List.all_append]; simp
theorem b0e {i n:Nat} (h:decide ((i:Int) < (n:Int))=true):i < n:=by simpa using h
theorem b04 {i n:Nat} (h:decide ((i:Int) < (n:Int))=false) (h2:i≤n):i=n:=by
 have:¬ (i:Int) < (n:Int):=z0m h
 omega
theorem bd {i n:Nat} (h:i < n):(0:Int)≤(i:Int)∧(i:Int) < (n:Int):=by omega
theorem d18 (N:Int) (l:List Pq):(n7 (tab [] [(0,.of (a7q N l 16))]) Tryz.f119 [rlV N 0 l] [arP l] (l4 (.b (d8 N l))))=(((decide (N < (0:Int)) || decide (N > (64:Int)))=true→false=d8 N l) ∧
 ((decide (N < (0:Int)) || decide (N > (64:Int)))=false →
 ∃(x:PUnit),
 (∃(x:Nat),(x≤l.length∧(List.take x l).all (inR N)=true)∧((0:Int)=(↑x:Int)∧True)∧True) ∧
 ∀(x_1:Nat),
 x_1≤l.length∧(List.take x_1 l).all (inR N)=true →
 (decide ((↑x_1:Int) < (↑l.length:Int))=true →
 ((0:Int)≤(↑x_1:Int)∧(↑x_1:Int) < (↑l.length:Int)) ∧
 x_1 < l.length ∧
 ((decide ((b6 ((0:Int),(0:Int)) l x_1).fst < (0:Int)) ||
 decide ((b6 ((0:Int),(0:Int)) l x_1).fst ≥ N) ||
 decide ((b6 ((0:Int),(0:Int)) l x_1).snd < (0:Int)) ||
 decide ((b6 ((0:Int),(0:Int)) l x_1).snd ≥ N)) =
 true →
 false=d8 N l) ∧
 ((decide ((b6 ((0:Int),(0:Int)) l x_1).fst < (0:Int)) ||
 decide ((b6 ((0:Int),(0:Int)) l x_1).fst ≥ N) ||
 decide ((b6 ((0:Int),(0:Int)) l x_1).snd < (0:Int)) ||
 decide ((b6 ((0:Int),(0:Int)) l x_1).snd ≥ N)) =
 false →
 ∃(x_2:Nat),
 (x_2≤l.length∧(List.take x_2 l).all (inR N)=true) ∧
 ((PLoop.of (a7q N l (16:Nat))).ann x).mu x_2 <
 ((PLoop.of (a7q N l (16:Nat))).ann x).mu x_1 ∧
 ((N=N∧l.length=l.length) ∧
 True ∧
 True ∧
 N=N ∧
 decide (N < (0:Int))=decide (N < (0:Int)) ∧
 decide (N < (0:Int))=decide (N < (0:Int)) ∧
 false=false ∧
 True ∧
 l.length=l.length ∧
 (↑l.length:Int)=(↑l.length:Int) ∧
 IntKind.i64.wrap ((↑x_1:Int) + (1:Int))=(↑x_2:Int)∧True) ∧
 (l.length=l.length ∧
 (∀(j:Nat),
 j < l.length →
 (b6 ((0:Int),(0:Int)) l j).fst =
 (b6 ((0:Int),(0:Int)) l j).fst) ∧
 (∀(j:Nat),
 j < l.length →
 (b6 ((0:Int),(0:Int)) l j).snd =
 (b6 ((0:Int),(0:Int)) l j).snd) ∧
 True) ∧
 (N=N∧l.length=l.length)∧True)) ∧
 (decide ((↑x_1:Int) < (↑l.length:Int))=false→true=d8 N l))):=by kernel_rfl
theorem v119 (N:Int) (l:List Pq) (hl:L9 l):n7 (tab [] [(0,.of (a7q N l 16))]) Tryz.f119 [rlV N 0 l] [arP l] (l4 (.b (d8 N l))):=by
 rw[d18]
 simp only[eq_self,true_and,and_true,z0o,imp_self,m5,m6,g7,g9,PLoop.of,p9,a7q,b36,b35,b07,c3t,b34,AV.len]
 refine⟨fun h=>?_,fun h=>⟨(),⟨0,by simp,rfl⟩,fun i hi=>⟨fun hlt=>?_,fun hlt=>?_⟩⟩⟩
 ·have:inB N=false:=by rw[inB,h]; rfl
  rw[d8,this]; rfl
 ·have hi2:=b0e hlt
  refine⟨bd hi2,hi2,fun hc=>?_,fun hc=>?_⟩
  ·have:inR N (b6 (0,0) l i)=false:=by rw[inR]; exact congrArg (!·) hc
   rw[d8]
   have h2:l.all (inR N)=false:=by
    rw[List.all_eq_false]
    exact⟨_,b1x hi2,by rw[this]; simp⟩
   rw[h2,Bool.and_false]
  ·have:inR N (b6 (0,0) l i)=true:=by rw[inR]; exact congrArg (!·) hc
   exact⟨i + 1,⟨hi2,by rw[b7p hi2,hi.2,this]; rfl⟩,by omega,b28 (by omega) hl⟩
 ·have hi2:=b04 hlt hi.1
  have h3:=hi.2
  rw[hi2,z3m] at h3
  have:inB N=true:=by rw[inB,h]; rfl
  rw[d8,h3,this]; rfl
theorem d0w (N:Int) (l:List Pq):(n7 (tab [] [(0,.of (a7q N l 3))]) Tryz.f103 [rlV N 0 l] [arP l] (l4 (.b (d8 N l))))=(((decide (N < (0:Int)) || decide (N > (64:Int)))=true→false=d8 N l) ∧
 ((decide (N < (0:Int)) || decide (N > (64:Int)))=false →
 ∃(x:PUnit),
 (∃(x:Nat),(x≤l.length∧(List.take x l).all (inR N)=true)∧((0:Int)=(↑x:Int)∧True)∧True) ∧
 ∀(x_1:Nat),
 x_1≤l.length∧(List.take x_1 l).all (inR N)=true →
 (decide ((↑x_1:Int) < (↑l.length:Int))=true →
 ((0:Int)≤(↑x_1:Int)∧(↑x_1:Int) < (↑l.length:Int)) ∧
 x_1 < l.length ∧
 ((0:Int)≤(↑x_1:Int)∧(↑x_1:Int) < (↑l.length:Int)) ∧
 x_1 < l.length ∧
 ((decide ((b6 ((0:Int),(0:Int)) l x_1).fst < (0:Int)) ||
 decide ((b6 ((0:Int),(0:Int)) l x_1).fst ≥ N) ||
 decide ((b6 ((0:Int),(0:Int)) l x_1).snd < (0:Int)) ||
 decide ((b6 ((0:Int),(0:Int)) l x_1).snd ≥ N)) =
 true →
 false=d8 N l) ∧
 ((decide ((b6 ((0:Int),(0:Int)) l x_1).fst < (0:Int)) ||
 decide ((b6 ((0:Int),(0:Int)) l x_1).fst ≥ N) ||
 decide ((b6 ((0:Int),(0:Int)) l x_1).snd < (0:Int)) ||
 decide ((b6 ((0:Int),(0:Int)) l x_1).snd ≥ N)) =
 false →
 ∃(x_2:Nat),
 (x_2≤l.length∧(List.take x_2 l).all (inR N)=true) ∧
 ((PLoop.of (a7q N l (3:Nat))).ann x).mu x_2 <
 ((PLoop.of (a7q N l (3:Nat))).ann x).mu x_1 ∧
 ((N=N∧l.length=l.length) ∧
 True ∧
 IntKind.i64.wrap ((↑x_1:Int) + (1:Int))=(↑x_2:Int) ∧
 True ∧
 N=N ∧
 decide (N < (0:Int))=decide (N < (0:Int)) ∧
 decide (N < (0:Int))=decide (N < (0:Int)) ∧
 false=false∧True) ∧
 (l.length=l.length ∧
 (∀(j:Nat),
 j < l.length →
 (b6 ((0:Int),(0:Int)) l j).fst =
 (b6 ((0:Int),(0:Int)) l j).fst) ∧
 (∀(j:Nat),
 j < l.length →
 (b6 ((0:Int),(0:Int)) l j).snd =
 (b6 ((0:Int),(0:Int)) l j).snd) ∧
 True) ∧
 (N=N∧l.length=l.length)∧True)) ∧
 (decide ((↑x_1:Int) < (↑l.length:Int))=false→true=d8 N l))):=by kernel_rfl
theorem v103 (N:Int) (l:List Pq) (hl:L9 l):n7 (tab [] [(0,.of (a7q N l 3))]) Tryz.f103 [rlV N 0 l] [arP l] (l4 (.b (d8 N l))):=by
 rw[d0w]
 simp only[eq_self,true_and,and_true,z0o,imp_self,m5,m6,g7,g9,PLoop.of,p9,a7q,b36,b35,b07,c3t,b34,AV.len]
 refine⟨fun h=>?_,fun h=>⟨(),⟨0,by simp,rfl⟩,fun i hi=>⟨fun hlt=>?_,fun hlt=>?_⟩⟩⟩
 ·have:inB N=false:=by rw[inB,h]; rfl
  rw[d8,this]; rfl
 ·have hi2:=b0e hlt
  refine⟨bd hi2,hi2,bd hi2,hi2,fun hc=>?_,fun hc=>?_⟩
  ·have:inR N (b6 (0,0) l i)=false:=by rw[inR]; exact congrArg (!·) hc
   rw[d8]
   have h2:l.all (inR N)=false:=by
    rw[List.all_eq_false]
    exact⟨_,b1x hi2,by rw[this]; simp⟩
   rw[h2,Bool.and_false]
  ·have:inR N (b6 (0,0) l i)=true:=by rw[inR]; exact congrArg (!·) hc
   exact⟨i + 1,⟨hi2,by rw[b7p hi2,hi.2,this]; rfl⟩,by omega,b28 (by omega) hl⟩
 ·have hi2:=b04 hlt hi.1
  have h3:=hi.2
  rw[hi2,z3m] at h3
  have:inB N=true:=by rw[inB,h]; rfl
  rw[d8,h3,this]; rfl
theorem d1s (N:Int) (l:List Pq):(n7 (tab [] [(0,.of (b36 l 10 2))]) Tryz.f148 [rlV N 0 l] [arP l] (a7a (d9 l)))=(∃(x:PUnit),
 (∃(x:Nat),
 (x≤l.length∧True) ∧
 ((0:Int)=(↑x:Int)∧True)∧(∀(x_1 y:Int),false=d9 (List.take x l) x_1 y)∧True) ∧
 ∀(x_1:Nat),
 x_1≤l.length∧True →
 (decide ((↑x_1:Int) < (↑l.length:Int))=true →
 ((0:Int)≤(↑x_1:Int)∧(↑x_1:Int) < (↑l.length:Int)) ∧
 x_1 < l.length ∧
 ∃(x_2:Nat),
 (x_2≤l.length∧True) ∧
 ((PLoop.of (b36 l (10:Nat) (2:Nat))).ann x).mu x_2 <
 ((PLoop.of (b36 l (10:Nat) (2:Nat))).ann x).mu x_1 ∧
 ((N=N∧l.length=l.length) ∧
 True ∧
 True ∧
 True ∧
 True ∧
 True ∧
 l.length=l.length ∧
 (↑l.length:Int)=(↑l.length:Int) ∧
 IntKind.i64.wrap ((↑x_1:Int) + (1:Int))=(↑x_2:Int)∧True) ∧
 (l.length=l.length ∧
 (∀(j:Nat),
 j < l.length →
 (b6 ((0:Int),(0:Int)) l j).fst=(b6 ((0:Int),(0:Int)) l j).fst) ∧
 (∀(j:Nat),
 j < l.length →
 (b6 ((0:Int),(0:Int)) l j).snd=(b6 ((0:Int),(0:Int)) l j).snd) ∧
 True) ∧
 (N=N∧l.length=l.length) ∧
 (∀(x y:Int),
 (x == (b6 ((0:Int),(0:Int)) l x_1).fst &&
 y == (b6 ((0:Int),(0:Int)) l x_1).snd ||
 d9 (List.take x_1 l) x y) =
 d9 (List.take x_2 l) x y) ∧
 True) ∧
 (decide ((↑x_1:Int) < (↑l.length:Int))=false→∀(x y:Int),d9 (List.take x_1 l) x y=d9 l x y)):=by kernel_rfl
theorem v148 (N:Int) (l:List Pq) (hl:L9 l):n7 (tab [] [(0,.of (b36 l 10 2))]) Tryz.f148 [rlV N 0 l] [arP l] (a7a (d9 l)):=by
 rw[d1s]
 simp only[eq_self,true_and,and_true,z0o,imp_self,m5,m6,g7,g9,PLoop.of,p9,a7q,b36,b35,b07,c3t,b34,AV.len]
 refine⟨(),⟨0,by simp,rfl,by simp⟩,fun i hi=>⟨fun hlt=>?_,fun hlt x y=>?_⟩⟩
 ·have hi2:=b0e hlt
  exact⟨bd hi2,hi2,i + 1,by omega,by omega,b28 (by omega) hl,fun x y=>(b5p hi2 x y).symm⟩
 ·rw[b04 hlt hi,z3m]
theorem d1r (n:Int) (f:Pf):(n7 (d0m [] [(0,.of (b35 n f 11)),(2,b07 n f 15)] 2 [.fresh 2 1 67 2]) Tryz.f147 [.i .i64 n,.mp 0] [.fmapp f] (a6j (b3q n (b7 n f).length) 67 (b7 n f).length (a1a (b7 n f))))=(∃(x:PUnit),
 (∃(x:Nat),
 (x≤n.toNat∧True) ∧
 ((0:Int)=(↑x:Int)∧True) ∧
 (n=n∧(0:Nat)=(b9 f n.toNat x).length) ∧
 ((0:Nat)=(b9 f n.toNat x).length ∧
 (b9 f n.toNat x).length=(0:Nat)∧(b9 f n.toNat x).length=(0:Nat)∧True) ∧
 True) ∧
 ∀(x_1:Nat),
 x_1≤n.toNat∧True →
 (decide ((↑x_1:Int) < n)=true →
 ∃(x_2:Nat),
 (∃(x:Nat),
 (x≤n.toNat∧x_2 < n.toNat) ∧
 ((0:Int)=(↑x:Int)∧True) ∧
 (n=n∧(b9 f n.toNat x_1).length=(b9 f n.toNat x_2 ++ d7 f x_2 x).length) ∧
 ((b9 f n.toNat x_1).length=(b9 f n.toNat x_2 ++ d7 f x_2 x).length ∧
 (∀(j:Nat),
 j < (b9 f n.toNat x_2 ++ d7 f x_2 x).length →
 (b6 ((0:Int),(0:Int)) (b9 f n.toNat x_1) j).fst =
 (b6 ((0:Int),(0:Int)) (b9 f n.toNat x_2 ++ d7 f x_2 x) j).fst) ∧
 (∀(j:Nat),
 j < (b9 f n.toNat x_2 ++ d7 f x_2 x).length →
 (b6 ((0:Int),(0:Int)) (b9 f n.toNat x_1) j).snd =
 (b6 ((0:Int),(0:Int)) (b9 f n.toNat x_2 ++ d7 f x_2 x) j).snd) ∧
 True) ∧
 True) ∧
 ∀(x_3:Nat),
 x_3≤n.toNat∧x_2 < n.toNat →
 (decide ((↑x_3:Int) < n)=true →
 (f (↑x_1:Int) (↑x_3:Int)=true →
 (b9 f n.toNat x_2 ++ d7 f x_2 x_3).length =
 (b9 f n.toNat x_2 ++ d7 f x_2 x_3).length ∧
 (1:Nat)=(1:Nat) ∧
 ((b9 f n.toNat x_2 ++ d7 f x_2 x_3).length + (1:Nat)) * (16:Nat) ≤
 (140737488355328:Nat) ∧
 (b9 f n.toNat x_2 ++ d7 f x_2 x_3).length + (1:Nat) ≤
 (9223372036854775807:Nat) ∧
 ∃(x:Nat),
 (x≤n.toNat∧x_2 < n.toNat) ∧
 ((b07 n f (15:Nat)).ann x_2).mu x < ((b07 n f (15:Nat)).ann x_2).mu x_3 ∧
 (n=n ∧
 True ∧
 True ∧
 True ∧
 (↑x_1:Int)=(↑x_1:Int) ∧
 n=n ∧
 (n=n∧True) ∧
 n=n ∧
 (↑x_1:Int)=(↑x_1:Int) ∧
 true=true ∧
 (↑x_1:Int)=(↑x_1:Int) ∧
 n=n ∧
 IntKind.i64.wrap ((↑x_3:Int) + (1:Int)) =
 (↑x:Int) ∧
 True) ∧
 (∀(x y:Int),f x y=f x y) ∧
 ((0:Int)=(0:Int)∧True) ∧
 (n=n ∧
 (b9 f n.toNat x_2 ++ d7 f x_2 x_3).length + (1:Nat) =
 (b9 f n.toNat x_2 ++ d7 f x_2 x).length) ∧
 ((b9 f n.toNat x_2 ++ d7 f x_2 x_3).length + (1:Nat) =
 (b9 f n.toNat x_2 ++ d7 f x_2 x).length ∧
 (∀(j:Nat),
 j < (b9 f n.toNat x_2 ++ d7 f x_2 x).length →
 (bif
 j.blt
 (b9 f n.toNat x_2 ++ d7 f x_2 x_3).length then
 (b6 ((0:Int),(0:Int))
 (b9 f n.toNat x_2 ++ d7 f x_2 x_3) j).fst
 else
 e8 [(↑x_1:Int)]
 (j - (b9 f n.toNat x_2 ++ d7 f x_2 x_3).length)) =
 (b6 ((0:Int),(0:Int))
 (b9 f n.toNat x_2 ++ d7 f x_2 x) j).fst) ∧
 (∀(j:Nat),
 j < (b9 f n.toNat x_2 ++ d7 f x_2 x).length →
 (bif
 j.blt
 (b9 f n.toNat x_2 ++ d7 f x_2 x_3).length then
 (b6 ((0:Int),(0:Int))
 (b9 f n.toNat x_2 ++ d7 f x_2 x_3) j).snd
 else
 e8 [(↑x_3:Int)]
 (j -
 (b9 f n.toNat x_2 ++ d7 f x_2 x_3).length)) =
 (b6 ((0:Int),(0:Int))
 (b9 f n.toNat x_2 ++ d7 f x_2 x) j).snd) ∧
 True) ∧
 True) ∧
 (f (↑x_1:Int) (↑x_3:Int)=false →
 ∃(x:Nat),
 (x≤n.toNat∧x_2 < n.toNat) ∧
 ((b07 n f (15:Nat)).ann x_2).mu x < ((b07 n f (15:Nat)).ann x_2).mu x_3 ∧
 (n=n ∧
 True ∧
 True ∧
 True ∧
 (↑x_1:Int)=(↑x_1:Int) ∧
 n=n ∧
 (n=n∧True) ∧
 n=n ∧
 (↑x_1:Int)=(↑x_1:Int) ∧
 true=true ∧
 (↑x_1:Int)=(↑x_1:Int) ∧
 n=n ∧
 IntKind.i64.wrap ((↑x_3:Int) + (1:Int))=(↑x:Int) ∧
 True) ∧
 (∀(x y:Int),f x y=f x y) ∧
 ((0:Int)=(0:Int)∧True) ∧
 (n=n ∧
 (b9 f n.toNat x_2 ++ d7 f x_2 x_3).length =
 (b9 f n.toNat x_2 ++ d7 f x_2 x).length) ∧
 ((b9 f n.toNat x_2 ++ d7 f x_2 x_3).length =
 (b9 f n.toNat x_2 ++ d7 f x_2 x).length ∧
 (∀(j:Nat),
 j < (b9 f n.toNat x_2 ++ d7 f x_2 x).length →
 (b6 ((0:Int),(0:Int)) (b9 f n.toNat x_2 ++ d7 f x_2 x_3)
 j).fst =
 (b6 ((0:Int),(0:Int)) (b9 f n.toNat x_2 ++ d7 f x_2 x)
 j).fst) ∧
 (∀(j:Nat),
 j < (b9 f n.toNat x_2 ++ d7 f x_2 x).length →
 (b6 ((0:Int),(0:Int))
 (b9 f n.toNat x_2 ++ d7 f x_2 x_3) j).snd =
 (b6 ((0:Int),(0:Int))
 (b9 f n.toNat x_2 ++ d7 f x_2 x) j).snd) ∧
 True) ∧
 True)) ∧
 (decide ((↑x_3:Int) < n)=false →
 ∃(x_4:Nat),
 (x_4≤n.toNat∧True) ∧
 ((PLoop.of (b35 n f (11:Nat))).ann x).mu x_4 <
 ((PLoop.of (b35 n f (11:Nat))).ann x).mu x_1 ∧
 (n=n ∧
 True ∧
 True ∧
 True ∧
 n=n ∧
 (n=n∧True) ∧
 n=n∧IntKind.i64.wrap ((↑x_1:Int) + (1:Int))=(↑x_4:Int)∧True) ∧
 (∀(x y:Int),f x y=f x y) ∧
 ((0:Int)=(0:Int)∧True) ∧
 (n=n ∧
 (b9 f n.toNat x_2 ++ d7 f x_2 x_3).length=(b9 f n.toNat x_4).length) ∧
 ((b9 f n.toNat x_2 ++ d7 f x_2 x_3).length=(b9 f n.toNat x_4).length ∧
 (∀(j:Nat),
 j < (b9 f n.toNat x_4).length →
 (b6 ((0:Int),(0:Int)) (b9 f n.toNat x_2 ++ d7 f x_2 x_3)
 j).fst =
 (b6 ((0:Int),(0:Int)) (b9 f n.toNat x_4) j).fst) ∧
 (∀(j:Nat),
 j < (b9 f n.toNat x_4).length →
 (b6 ((0:Int),(0:Int)) (b9 f n.toNat x_2 ++ d7 f x_2 x_3)
 j).snd =
 (b6 ((0:Int),(0:Int)) (b9 f n.toNat x_4) j).snd) ∧
 True) ∧
 True)) ∧
 (decide ((↑x_1:Int) < n)=false →
 (b9 f n.toNat x_1).length=(b7 n f).length ∧
 ((∀(j:Nat),
 j < (b7 n f).length →
 (b6 ((0:Int),(0:Int)) (b9 f n.toNat x_1) j).fst =
 (b6 ((0:Int),(0:Int)) (b7 n f) j).fst) ∧
 (∀(j:Nat),
 j < (b7 n f).length →
 (b6 ((0:Int),(0:Int)) (b9 f n.toNat x_1) j).snd =
 (b6 ((0:Int),(0:Int)) (b7 n f) j).snd) ∧
 True) ∧
 n=n∧(b9 f n.toNat x_1).length=(b7 n f).length∧True)):=by kernel_rfl
theorem v147 (n:Int) (f:Pf) (hn:0≤n∧n≤64):n7 (d0m [] [(0,.of (b35 n f 11)),(2,b07 n f 15)] 2 [.fresh 2 1 67 2]) Tryz.f147 [.i .i64 n,.mp 0] [.fmapp f] (a6j (b3q n (b7 n f).length) 67 (b7 n f).length (a1a (b7 n f))):=by
 rw[d1r]
 have hn0:=hn.1
 have hn1:=hn.2
 have hN:n.toNat≤64:=by omega
 have hlen:∀ a b,a < n.toNat→b≤n.toNat→(b9 f n.toNat a ++ d7 f a b).length≤8192:=fun a b ha hb=>by
  have h1:=a2j f n.toNat a
  have h2:=a9o f a b
  have h3:a * n.toNat≤64 * 64:=z2v (by omega) hN
  rw[z1a]; omega
 simp only[eq_self,true_and,and_true,z0o,imp_self,m5,m6,g7,g9,PLoop.of,p9,a7q,b36,b35,b07,c3t,b34,AV.len]
 refine⟨(),⟨0,by simp,rfl,?_⟩,fun a ha=>⟨fun hlt=>⟨a,⟨0,?_⟩,fun b hb=>⟨fun hlb=>⟨fun hf=>?_,fun hf=>?_⟩,fun hlb=>?_⟩⟩,fun hlt=>?_⟩⟩
 ·simp[a26]
 ·have ha2:a < n.toNat:=by have:=z0e hlt; omega
  simp[a3s,ha2]
 ·have hb2:b < n.toNat:=by have:=z0e hlb; omega
  have h1:=hlen a b hb.2 hb.1
  have e:d7 f a (b + 1)=d7 f a b ++ [((a:Int),(b:Int))]:=by rw[z4,if_pos hf]
  have e2:b9 f n.toNat a ++ d7 f a (b + 1)=(b9 f n.toNat a ++ d7 f a b) ++ [((a:Int),(b:Int))]:=by rw[e,z1x]
  refine⟨by omega,by omega,b + 1,⟨by omega,hb.2⟩,by omega,wrS (n:=n.toNat) hb2 (by omega),?_⟩
  rw[e2]
  have e3:(b9 f n.toNat a ++ d7 f a b ++ [((a:Int),(b:Int))]).length=(b9 f n.toNat a ++ d7 f a b).length + 1:=by rw[z1a (bs:=[((a:Int),(b:Int))])]; rfl
  exact⟨e3.symm,e3.symm,ap1 (·.1) _ _,ap1 (·.2) _ _⟩
 ·have hb2:b < n.toNat:=by have:=z0e hlb; omega
  have e:d7 f a (b + 1)=d7 f a b:=by rw[z4,if_neg (by rw[hf]; simp),z1f]
  refine⟨b + 1,⟨by omega,hb.2⟩,by omega,wrS (n:=n.toNat) hb2 (by omega),?_⟩
  rw[e]
  simp
 ·have hb2:b=n.toNat:=by have:=z0m hlb; omega
  have e:b9 f n.toNat (a + 1)=b9 f n.toNat a ++ d7 f a b:=by rw[a15,hb2]
  refine⟨a + 1,by omega,by omega,wrS (n:=n.toNat) hb.2 (by omega),?_⟩
  rw[e]
  simp
 ·have ha2:a=n.toNat:=by have:=z0m hlt; omega
  subst ha2
  simp[b7]
theorem d5r (N:Int) (l:List Pq) (a b:Int):(n7 (tab [c5y []] [(0,.of (b34 l a b 7))]) Tryz.f46 [rlV N 0 l,.i .i64 a,.i .i64 b] [arP l] (l4 (.b (d8 N l && d9 l a b))))=(l.length=l.length ∧
 (mkN (fun(j:Nat)=>((b6 ((0:Int),(0:Int)) l j).fst,(b6 ((0:Int),(0:Int)) l j).snd))
 l.length).length ≤
 (1099511627776:Nat) ∧
 ((!d8 N
 (mkN (fun(j:Nat)=>((b6 ((0:Int),(0:Int)) l j).fst,(b6 ((0:Int),(0:Int)) l j).snd))
 l.length)) =
 true →
 false=(d8 N l && d9 l a b)) ∧
 ((!d8 N
 (mkN (fun(j:Nat)=>((b6 ((0:Int),(0:Int)) l j).fst,(b6 ((0:Int),(0:Int)) l j).snd))
 l.length)) =
 false →
 ∃(x:PUnit),
 (∃(x:Nat),(x≤l.length∧d9 (List.take x l) a b=false)∧((0:Int)=(↑x:Int)∧True)∧True) ∧
 ∀(x_1:Nat),
 x_1≤l.length∧d9 (List.take x_1 l) a b=false →
 (decide ((↑x_1:Int) < (↑l.length:Int))=true →
 ((0:Int)≤(↑x_1:Int)∧(↑x_1:Int) < (↑l.length:Int)) ∧
 x_1 < l.length ∧
 (((b6 ((0:Int),(0:Int)) l x_1).fst == a)=true →
 (0:Int)≤(↑x_1:Int)∧(↑x_1:Int) < (↑l.length:Int)) ∧
 (((b6 ((0:Int),(0:Int)) l x_1).fst == a)=true→x_1 < l.length) ∧
 (((b6 ((0:Int),(0:Int)) l x_1).fst == a &&
 (b6 ((0:Int),(0:Int)) l x_1).snd == b) =
 true →
 true=(d8 N l && d9 l a b)) ∧
 (((b6 ((0:Int),(0:Int)) l x_1).fst == a &&
 (b6 ((0:Int),(0:Int)) l x_1).snd == b) =
 false →
 ∃(x_2:Nat),
 (x_2≤l.length∧d9 (List.take x_2 l) a b=false) ∧
 ((PLoop.of (b34 l a b (7:Nat))).ann x).mu x_2 <
 ((PLoop.of (b34 l a b (7:Nat))).ann x).mu x_1 ∧
 ((N=N∧l.length=l.length) ∧
 a=a ∧
 b=b ∧
 True ∧
 IntKind.i64.wrap ((↑x_1:Int) + (1:Int))=(↑x_2:Int) ∧
 (N=N∧l.length=l.length) ∧
 d8 N
 (mkN
 (fun(j:Nat) =>
 ((b6 ((0:Int),(0:Int)) l j).fst,
 (b6 ((0:Int),(0:Int)) l j).snd))
 l.length) =
 d8 N
 (mkN
 (fun(j:Nat) =>
 ((b6 ((0:Int),(0:Int)) l j).fst,
 (b6 ((0:Int),(0:Int)) l j).snd))
 l.length) ∧
 false=false∧True) ∧
 (l.length=l.length ∧
 (∀(j:Nat),
 j < l.length →
 (b6 ((0:Int),(0:Int)) l j).fst =
 (b6 ((0:Int),(0:Int)) l j).fst) ∧
 (∀(j:Nat),
 j < l.length →
 (b6 ((0:Int),(0:Int)) l j).snd =
 (b6 ((0:Int),(0:Int)) l j).snd) ∧
 True) ∧
 (N=N∧l.length=l.length)∧True)) ∧
 (decide ((↑x_1:Int) < (↑l.length:Int))=false→false=(d8 N l && d9 l a b)))):=by kernel_rfl
theorem v46 (N:Int) (l:List Pq) (a b:Int) (hl:L9 l):n7 (tab [c5y []] [(0,.of (b34 l a b 7))]) Tryz.f46 [rlV N 0 l,.i .i64 a,.i .i64 b] [arP l] (l4 (.b (d8 N l && d9 l a b))):=by
 rw[d5r]
 simp only[eq_self,true_and,and_true,z0o,imp_self,m5,m6,g7,g9,PLoop.of,p9,a7q,b36,b35,b07,c3t,b34,AV.len]
 refine⟨hl,fun h=>?_,fun h=>⟨(),⟨0,by simp,rfl⟩,fun i hi=>⟨fun hlt=>?_,fun hlt=>?_⟩⟩⟩
 ·simp at h; simp[h]
 ·have hv:d8 N l=true:=by simpa using h
  have hi2:=b0e hlt
  refine⟨bd hi2,hi2,fun _=>bd hi2,fun _=>hi2,fun hc=>?_,fun hc=>?_⟩
  ·have:d9 l a b=true:=a4v.2 (by simp at hc; rw[← hc.1,← hc.2]; exact b1x hi2)
   rw[hv,this]; rfl
  ·refine⟨i + 1,⟨by omega,?_⟩,by omega,b28 (by omega) hl⟩
   rw[b5p hi2,hi.2,Bool.or_false,← hc]
   rw[z2w]; simp; constructor <;> rintro ⟨rfl,rfl⟩ <;> exact⟨rfl,rfl⟩
 ·have hi2:=b04 hlt hi.1
  have hs:=hi.2
  rw[hi2,z3m] at hs
  rw[hs,Bool.and_false]
theorem d11 (N:Int) (l:List Pq):(n7 (tab [b6n [],c3m [],b6m []] []) Tryz.f109 [rlV N 0 l] [arP l] (a6j (b3q (bif d8 N l then N else 0) (i9 (d8 N l) (b7 N (d9 l))).length) 67 (i9 (d8 N l) (b7 N (d9 l))).length (a1a (i9 (d8 N l) (b7 N (d9 l))))))=(l.length=l.length ∧
 (mkN (fun(j:Nat)=>((b6 ((0:Int),(0:Int)) l j).fst,(b6 ((0:Int),(0:Int)) l j).snd))
 l.length).length ≤
 (1099511627776:Nat) ∧
 ((!d8 N
 (mkN (fun(j:Nat)=>((b6 ((0:Int),(0:Int)) l j).fst,(b6 ((0:Int),(0:Int)) l j).snd))
 l.length)) =
 true →
 (i9 (d8 N l) (b7 N (d9 l))).length=(0:Nat) ∧
 ((0:Int)=bif d8 N l then N else(0:Int)) ∧
 (i9 (d8 N l) (b7 N (d9 l))).length=(0:Nat)∧True) ∧
 ((!d8 N
 (mkN (fun(j:Nat)=>((b6 ((0:Int),(0:Int)) l j).fst,(b6 ((0:Int),(0:Int)) l j).snd))
 l.length)) =
 false →
 l.length=l.length ∧
 (mkN (fun(j:Nat)=>((b6 ((0:Int),(0:Int)) l j).fst,(b6 ((0:Int),(0:Int)) l j).snd))
 l.length).length ≤
 (1099511627776:Nat) ∧
 ((0:Int)≤N∧N≤(64:Int)) ∧
 (AV.ps
 (b7 N
 (d9
 (mkN
 (fun(j:Nat) =>
 ((b6 ((0:Int),(0:Int)) l j).fst,(b6 ((0:Int),(0:Int)) l j).snd))
 l.length)))).len =
 (i9 (d8 N l) (b7 N (d9 l))).length ∧
 ((∀(j:Nat),
 j < (i9 (d8 N l) (b7 N (d9 l))).length →
 (b6 ((0:Int),(0:Int))
 (b7 N
 (d9
 (mkN
 (fun(j:Nat) =>
 ((b6 ((0:Int),(0:Int)) l j).fst,(b6 ((0:Int),(0:Int)) l j).snd))
 l.length)))
 j).fst =
 (b6 ((0:Int),(0:Int)) (i9 (d8 N l) (b7 N (d9 l))) j).fst) ∧
 (∀(j:Nat),
 j < (i9 (d8 N l) (b7 N (d9 l))).length →
 (b6 ((0:Int),(0:Int))
 (b7 N
 (d9
 (mkN
 (fun(j:Nat) =>
 ((b6 ((0:Int),(0:Int)) l j).fst,(b6 ((0:Int),(0:Int)) l j).snd))
 l.length)))
 j).snd =
 (b6 ((0:Int),(0:Int)) (i9 (d8 N l) (b7 N (d9 l))) j).snd) ∧
 True) ∧
 (N=bif d8 N l then N else(0:Int)) ∧
 (AV.ps
 (b7 N
 (d9
 (mkN
 (fun(j:Nat) =>
 ((b6 ((0:Int),(0:Int)) l j).fst,(b6 ((0:Int),(0:Int)) l j).snd))
 l.length)))).len =
 (i9 (d8 N l) (b7 N (d9 l))).length ∧
 True)):=by kernel_rfl
theorem v109 (N:Int) (l:List Pq) (hl:L9 l):n7 (tab [b6n [],c3m [],b6m []] []) Tryz.f109 [rlV N 0 l] [arP l] (a6j (b3q (bif d8 N l then N else 0) (i9 (d8 N l) (b7 N (d9 l))).length) 67 (i9 (d8 N l) (b7 N (d9 l))).length (a1a (i9 (d8 N l) (b7 N (d9 l))))):=by
 rw[d11]
 simp only[eq_self,true_and,and_true,z0o,imp_self,m5,m6,g7,g9,PLoop.of,p9,a7q,b36,b35,b07,c3t,b34,AV.len]
 refine⟨hl,fun h=>?_,fun h=>?_⟩
 ·have hv:d8 N l=false:=by simpa using h
  simp[hv,i9]
 ·have hv:d8 N l=true:=by simpa using h
  obtain⟨h1,h2,h3⟩:=z5.1 hv
  rw[hv]
  simp only[i9,z0g,eq_self,true_and,and_true,z0o]
  exact⟨hl,h1,h2⟩
end Go.Proofs.YtaeeaniofljmnaaGreatDoor
