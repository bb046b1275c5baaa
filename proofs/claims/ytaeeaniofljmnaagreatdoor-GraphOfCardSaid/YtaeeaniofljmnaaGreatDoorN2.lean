/-
  A part of the proof (N2).
-/
import Derived.Test.YtaeeaniofljmnaaGreatDoorYx18
import Derived.Test.YtaeeaniofljmnaaGreatDoorRows
namespace Go.Proofs.YtaeeaniofljmnaaGreatDoor
set_option linter.unusedSimpArgs false
set_option linter.unusedVariables false
open Go Go.Proofs.YtaeeaniofljmnaaGreatDoor.Sx
set_option maxRecDepth 100000
def a6h:List (Nat × TI):=[
(3,⟨0,1,8,[.i .i64 0],[],0,0,some IntKind.i64,none,[]⟩),
(4,⟨5,1,1,[SV.ff],[],0,0,none,none,[]⟩),
(5,⟨0,1,1,[.i .u8 0],[],0,0,some IntKind.u8,none,[]⟩),
(6,⟨0,1,1,[.i .u8 0],[],0,0,some IntKind.u8,none,[]⟩),
(9,⟨6,1,16,[],[],0,0,none,none,[]⟩),
(22,⟨3,1,24,[SV.nilsl],[],85,9,none,none,[]⟩),
(23,⟨3,1,24,[SV.nilsl],[],3,1,none,none,[]⟩),
(24,⟨3,1,24,[SV.nilsl],[],23,1,none,none,[]⟩),
(26,⟨1,3,72,[SV.nilsl,SV.nilsl,SV.nilsl],[(0,1),(1,1),(2,1)],0,0,none,none,[false,false,false]⟩),
(29,⟨3,1,24,[SV.nilsl],[],67,2,none,none,[]⟩),
(31,⟨1,2,32,[.i .i64 0,SV.nilsl],[(0,1),(1,1)],0,0,none,none,[false,false]⟩),
(32,⟨0,1,8,[.i .i64 0],[],0,0,some IntKind.i64,none,[]⟩),
(67,⟨2,2,16,[.i .i64 0,.i .i64 0],[],3,2,none,some [some IntKind.i64,some IntKind.i64],[]⟩),
(72,⟨0,1,8,[SV.dead],[],0,0,none,none,[]⟩),
(76,⟨0,1,8,[SV.dead],[],0,0,none,none,[]⟩),
(77,⟨0,1,8,[SV.dead],[],0,0,none,none,[]⟩),
(79,⟨0,1,8,[SV.dead],[],0,0,none,none,[]⟩),
(82,⟨0,1,8,[.i .i64 0],[],0,0,some IntKind.i64,none,[]⟩),
(83,⟨0,1,8,[.i .i64 0],[],0,0,some IntKind.i64,none,[]⟩),
(85,⟨1,9,72,[.i .i64 0,.i .i64 0,.i .i64 0,.i .i64 0,.i .i64 0,.i .i64 0,.i .i64 0,.i .i64 0,.i .i64 0],[(0,1),(1,1),(2,1),(3,1),(4,1),(5,1),(6,1),(7,1),(8,1)],0,0,none,some [some IntKind.i64,some IntKind.i64,some IntKind.i64,some IntKind.i64,some IntKind.i64,some IntKind.i64,some IntKind.i64,some IntKind.i64,some IntKind.i64],[false,false,false,false,false,false,false,false,false]⟩),
(93,⟨0,1,8,[SV.dead],[],0,0,none,none,[]⟩),
(98,⟨4,1,8,[SV.nilmap],[],3,4,none,none,[]⟩),
(99,⟨4,1,8,[SV.nilmap],[],3,3,none,none,[]⟩),
(108,⟨4,1,8,[SV.nilmap],[],111,3,none,none,[]⟩),
(111,⟨1,2,16,[.i .i64 0,.i .i64 0],[(0,1),(1,1)],0,0,none,some [some IntKind.i64,some IntKind.i64],[false,false]⟩),
(124,⟨0,1,8,[SV.dead],[],0,0,none,none,[]⟩),
(126,⟨0,1,8,[SV.dead],[],0,0,none,none,[]⟩),
(127,⟨0,1,8,[SV.dead],[],0,0,none,none,[]⟩),
(129,⟨3,1,24,[SV.nilsl],[],31,2,none,none,[]⟩),
(130,⟨0,1,8,[SV.dead],[],0,0,none,none,[]⟩),
(133,⟨3,1,24,[SV.nilsl],[],4,1,none,none,[]⟩),
(157,⟨0,1,8,[SV.dead],[],0,0,none,none,[]⟩),
(118,⟨0,1,8,[SV.dead],[],0,0,none,none,[]⟩),
(136,⟨4,1,8,[SV.nilmap],[],67,4,none,none,[]⟩),
(160,⟨1,8,64,[.i .i64 0,SV.ff,.i .i64 0,.i .i64 0,SV.ff,.i .i64 0,.i .i64 0,SV.ff],[(0,1),(1,1),(2,1),(3,1),(4,1),(5,1),(6,1),(7,1)],0,0,none,none,[]⟩),
(161,⟨2,136,1088,[],[],160,17,none,none,[]⟩)]
theorem tys:∀ t ti,g7 a6h t=some ti→a0t Tryz.prog t ti=true:=by
 intro t ti h
 have key:(a6h.all fun p=>a0t Tryz.prog p.1 p.2)=true:=by kernel_rfl
 exact z2k.1 key _ (w5 h)
theorem ints:∀ t ti,g7 a6h t=some ti→a5w Tryz.prog t ti=true:=by
 intro t ti h
 have key:(a6h.all fun p=>a5w Tryz.prog p.1 p.2)=true:=by kernel_rfl
 exact z2k.1 key _ (w5 h)
theorem mixed:Tryz.prog.follows .mixedOrders=true:=by kernel_rfl
abbrev a1x:=List (Nat × (List MBlk→List SV→Option AR))
abbrev c00:=List (Nat × Inl)
def tab (calls:a1x) (loops:List (Nat × PLoop)):Tab:=⟨a6h,[],calls,loops,[],[],[],[],[],none,false⟩
theorem a41 {calls:a1x} {loops:List (Nat × PLoop)} (h:∀ p∈calls,CallOk Tryz.prog [] p.1 p.2):TabOk Tryz.prog (tab calls loops):=⟨mixed,tys,ints,fun _ _ hf=>h _ (w5 hf),fun _ _ hf=>(by cases hf),fun _ _ hf=>(by cases hf),fun _ hf=>by cases hf⟩
theorem b1j {f:Nat} {F:List MBlk→List SV→Option AR} {r:a1x} (h:CallOk Tryz.prog [] f F) (h':∀ p∈r,CallOk Tryz.prog [] p.1 p.2):∀ p∈(f,F) :: r,CallOk Tryz.prog [] p.1 p.2:=fun p hp=>by
 rcases z0s.1 hp with rfl | h1
 ·exact h
 ·exact h' p h1
theorem a5z:∀ p∈([]:a1x),CallOk Tryz.prog [] p.1 p.2:=fun p hp=>by cases hp
def a07:List Int:=[7,7,7,7,7,7,0,7,3,3,3,3,3,3,3,-1,-1]
def a1p:List Bool:=[true,true,true,false,true,true,false,true,false,false,false,false,false,false,false,false,false]
def a26:List Int:=[-2147483648,0,0,0,-2147483648,-2147483648,0,-2147483648,0,0,0,0,0,0,0,0,0]
def a06:List Int:=[2147483647,0,0,0,2147483647,2147483647,0,2147483647,0,0,1,0,0,1,-1,0,0]
def x4:List Bool:=[false,true,true,true,true,false,false,false,false,false,false,false,false,false,false,false,false]
def x0:List Int:=[-1,-2,0,0,-2,-2,-2,-1,-2,-2,-2,-2,-2,-2,-2,-2,-2]
def a2v:List Int:=[1,1,4,1,1,1,0,1,2,2,2,3,3,3,3,0,0]
def a03:List Bool:=[false,true,true,true,true,false,false,false,true,true,true,true,true,true,true,false,false]
def tbl:MBlk:=.arr 17 [.int .i64 (e8 a07),.bool (o7 a1p),.int .i64 (e8 a26),.int .i64 (e8 a06),.bool (o7 x4),.int .i64 (e8 x0),.int .i64 (e8 a2v),.bool (o7 a03)]
def w64 (n:Int):Int:=IntKind.i64.wrap n
def t6 (n m:Int):Bool:=decide (n ≥ 0) && decide (n < m)
def a14 (n:Int):Bool:=decide (n ≥ -2147483648) && decide (n≤2147483647)
def a44 (k:Int):Bool:=k == 1 || k == 2 || k == 3 || k == 5 || k == 6 || k == 8
def a0a (k:Int):Bool:=k == 1 || k == 8 || k == 5 || k == 6
def a08 (k:Int):Bool:=k == 2 || k == 3 || k == 4 || k == 5
def a17 (e:Ev):Bool:=bif e.k == 7 then e.ob == 0 else bif e.k == 9 || e.k == 10 || e.k == 11 then t6 e.ob 4 else bif e.k == 12 || e.k == 13 || e.k == 14 || e.k == 15 then t6 e.ob 4 else bif e.k == 16 || e.k == 17 then decide (e.ob ≥ 0) else t6 e.ob 8
def a39 (e:Ev):Bool:=bif e.k == 11 || e.k == 14 then t6 e.rd 2 else bif e.k == 15 then decide (e.rd ≥ 0) else a14 e.rd && (a0a e.k || e.rd == 0)
def a31 (e:Ev):Bool:=bif e.k == 1 || e.k == 8 then decide (e.en ≥ -1) else bif e.k == 3 || e.k == 4 then decide (e.en ≥ 0) else e.en == -1
def n7 (e:Ev):Bool:=
 decide (1≤e.k) && decide (e.k≤17) && (decide (e.ag < 0) == (e.k == 4)) && decide (0≤e.ix) && a17 e && a39 e && a31 e &&
 decide (0≤e.od) && decide (e.od≤2) && (a44 e.k || e.od == 0) && a14 e.wr && (a08 e.k || e.wr == 0) &&
 (bif e.k == 12 then t6 e.mu 4 else e.mu == -1)
def EL:Els:=⟨67,3,4,23,0,85,31⟩
theorem a7h {n:Int} (h : -9223372036854775808≤n) (h':n≤9223372036854775807):IntKind.i64.wrap n=n:=by
 simp only[IntKind.wrap,IntKind.signed,IntKind.bits]
 simp
 omega
theorem wrS {n i:Nat} (h:i < n) (hn:n≤1099511627776):IntKind.i64.wrap ((i:Int) + 1)=((i + 1:Nat):Int):=by
 rw[a7h (by omega) (by omega)]; omega
def GL:List (Nat × Nat):=[(0,0)]
def gbT:Option (Nat × MBlk):=some (0,tbl)
structure Kit where
 g:Bool:=false
 calls:a1x:=[]
 loops:List (Nat × PLoop):=[]
 inl:c00:=[]
 takes:List (Nat × (List Slot→List MBlk→List Gh)):=[]
 sure:List Nat:=[]
def Kit.gl (k:Kit):List (Nat × Nat):=match k.g with
 | true=>GL
 | false=>[]
def Kit.tab (k:Kit):Tab:=⟨a6h,k.gl,k.calls,k.loops,[],[],k.takes,k.sure,k.inl,none,false⟩
def a1q (p:Nat × Inl):Prop:=Tryz.prog.funcs[p.1]?=some p.2.fn∧o8 Tryz.prog p.1
theorem Kit.ok {k:Kit} (h:∀ p∈k.calls,CallOk Tryz.prog k.gl p.1 p.2) (hi:∀ p∈k.inl,a1q p):TabOk Tryz.prog k.tab:=⟨mixed,tys,ints,fun _ _ hf=>h _ (w5 hf),fun _ _ hf=>(by cases hf),fun _ _ hf=>hi _ (w5 hf),fun _ hf=>by cases hf⟩
theorem v5:∀ p∈([]:c00),a1q p:=fun p hp=>by cases hp
theorem a3q {x:Nat × Inl} {r:c00} (h:a1q x) (h':∀ p∈r,a1q p):∀ p∈x :: r,a1q p:=fun p hp=>by
 rcases z0s.1 hp with rfl | h1
 ·exact h
 ·exact h' p h1
theorem v4 {G:List (Nat × Nat)}:∀ p∈([]:a1x),CallOk Tryz.prog G p.1 p.2:=fun p hp=>by cases hp
theorem m9 {G:List (Nat × Nat)} {f:Nat} {F:List MBlk→List SV→Option AR} {r:a1x} (h:CallOk Tryz.prog G f F) (h':∀ p∈r,CallOk Tryz.prog G p.1 p.2):∀ p∈(f,F) :: r,CallOk Tryz.prog G p.1 p.2:=fun p hp=>by
 rcases z0s.1 hp with rfl | h1
 ·exact h
 ·exact h' p h1
def eqT:Prop:=eqA 17 [.int .i64 (e8 a07),.bool (o7 a1p),.int .i64 (e8 a26),.int .i64 (e8 a06),.bool (o7 x4),.int .i64 (e8 x0),.int .i64 (e8 a2v),.bool (o7 a03)]
theorem l6:eqT=True:=j8 _ _
theorem j5 (l:List Nat):l9 l tbl=tbl:=rfl
theorem b5e:w7 tbl tbl:=⟨_,rfl,by simp[tbl,a1a,a8w,kEq]⟩
theorem y5 {G:List (Nat × Nat)} {fid:FuncId} {fn:Func} {ks:List PK} {nm:List (Option AV)} {S:List PV→Option (List Prop × QV)} (hfn:Tryz.prog.funcs[fid]?=some fn) (hok:o8 Tryz.prog fid)
  (hv:∀ av pre rv,S av=some (pre,rv)→(rv.ok=true∧∀ t a,rv=.rv (.sl t a)→a.cols≠[])∧((∀ p∈pre,p)→∃ k:Kit,n9 k.tab fn (a77 0 av) (a1u 0 av) (rv.post EL)∧k.g=false∧(∀ p∈k.calls,CallOk Tryz.prog [] p.1 p.2)∧∀ p∈k.inl,a1q p)):CallOk Tryz.prog G fid (n8 EL none nm ks S):=
 c0i hfn hok (fun g k h=>by cases h) (fun av pre rv h=>(hv av pre rv h).1) fun av pre rv h hp=>by
  obtain⟨k,h1,h2,h3,h4⟩:=(hv av pre rv h).2 hp
  exact⟨k.tab,Kit.ok (by rw[Kit.gl,h2]; exact h3) h4,by simp[Kit.tab,Kit.gl,h2,gbG],rfl,h1⟩
theorem a4r {fid:FuncId} {fn:Func} {ks:List PK} {nm:List (Option AV)} {S:List PV→Option (List Prop × QV)} (hfn:Tryz.prog.funcs[fid]?=some fn) (hok:o8 Tryz.prog fid)
  (hv:∀ av pre rv,S av=some (pre,rv)→(rv.ok=true∧∀ t a,rv=.rv (.sl t a)→a.cols≠[])∧((∀ p∈pre,p)→∃ k:Kit,n9 k.tab fn (a77 1 av) (tbl :: a1u 1 av) (rv.post EL)∧k.g=true∧(∀ p∈k.calls,CallOk Tryz.prog GL p.1 p.2)∧∀ p∈k.inl,a1q p)):CallOk Tryz.prog GL fid (n8 EL gbT nm ks S):=
 c0i hfn hok (fun g k h=>by cases h; exact⟨rfl,rfl,b5e⟩) (fun av pre rv h=>(hv av pre rv h).1) fun av pre rv h hp=>by
  obtain⟨k,h1,h2,h3,h4⟩:=(hv av pre rv h).2 hp
  exact⟨k.tab,Kit.ok (by rw[Kit.gl,h2]; exact h3) h4,by simp[Kit.tab,Kit.gl,h2,gbG,gbT,GL],rfl,h1⟩
abbrev Pf:=Int→Int→Bool
def inR (N:Int) (p:Pq):Bool:=!(decide (p.1 < 0) || decide (p.1 ≥ N) || decide (p.2 < 0) || decide (p.2 ≥ N))
def inB (N:Int):Bool:=!(decide (N < 0) || decide (N > 64))
def d9 (N:Int) (l:List Pq):Bool:=inB N && l.all (inR N)
def L9 {α:Type} (l:List α):Prop:=l.length≤1099511627776
def e9 (l:List Pq):Pf:=fun a b=>l.any (fun p=>p.1 == a && p.2 == b)
def f8 (f:Pf) (a k:Nat):List Pq:=((List.range k).filter (fun b:Nat=>f a b)).map (fun(b:Nat)=>((a:Int),(b:Int)))
def d5 (f:Pf) (n k:Nat):List Pq:=(List.range k).flatMap (fun a=>f8 f a n)
def b9 (N:Int) (f:Pf):List Pq:=d5 f N.toNat N.toNat
def d0x (n:Nat) (f:Pf):List Bool:=mkN (fun i=>f ((i / n:Nat):Int) ((i % n:Nat):Int)) (n * n)
abbrev Sp:=List AV→Option (List Prop × RV)
def b3p (N:Int):Nat→SV:=fun k=>.agg [.i .i64 N,.sl 0 k]
def b4u:Sp:=fun | [.r N l]=>some ([L9 l],.pl (.b (d9 N l))) | _=>none
def c86:Sp:=fun | [.r _ l]=>some ([L9 l],.mp (e9 l)) | _=>none
def c82:Sp:=fun | [.i n,.mp f]=>some ([0≤n∧n≤64],.sl (b3p n) (.ps (b9 n f))) | _=>none
def c80:Sp:=fun | [.r N l,.i a,.i b]=>some ([L9 l],.pl (.b (d9 N l && e9 l a b))) | _=>none
def c81:Sp:=fun | [.r N l]=>some ([L9 l],.sl (b3p (bif d9 N l then N else 0)) (.ps (bif d9 N l then b9 N (e9 l) else []))) | _=>none
def b6n (nm:List (Option AV)):Nat × (List MBlk→List SV→Option AR):=(119,a1g EL nm [.r] b4u)
def c64 (nm:List (Option AV)):Nat × (List MBlk→List SV→Option AR):=(103,a1g EL nm [.r] b4u)
def c3p (nm:List (Option AV)):Nat × (List MBlk→List SV→Option AR):=(148,a1g EL nm [.r] c86)
def b6m (nm:List (Option AV)):Nat × (List MBlk→List SV→Option AR):=(147,a1g EL nm [.i,.mp] c82)
def c3o (nm:List (Option AV)):Nat × (List MBlk→List SV→Option AR):=(109,a1g EL nm [.r] c81)
def s5 (n t:Nat) (P:Nat→Prop) (mem:Nat→List (Nat × MBlk)) (kill:List Nat):LAnn where
 X:=Nat
 inv:=fun i=>i≤n∧P i
 slots:=fun i=>[(t,.i .i64 (i:Int))]
 mem:=mem
 mu:=fun i=>n - i
 kill:=kill
def a7q (N:Int) (l:List Pq) (t:Nat):LAnn:=s5 l.length t (fun i=>(l.take i).all (inR N)=true) (fun _=>[]) []
def b35 (l:List Pq) (t e:Nat):LAnn:=s5 l.length t (fun _=>True) (fun i=>[(e,.mapp (e9 (l.take i)))]) []
def b8x (e:Nat) (l:List Pq):Nat × MBlk:=(e,.oarr 67 l.length (a1n l))
def b34 (n:Int) (f:Pf) (t:Nat):LAnn:=s5 n.toNat t (fun _=>True) (fun a=>[(2,.cells [.i .i64 n,.sl 3 (d5 f n.toNat a).length]),b8x 3 (d5 f n.toNat a)]) [3]
def a9z (n:Int) (f:Pf) (t:Nat):PLoop:=⟨Nat,fun a=>s5 n.toNat t (fun _=>a < n.toNat) (fun b=>[(2,.cells [.i .i64 n,.sl 3 (d5 f n.toNat a ++ f8 f a b).length]),b8x 3 (d5 f n.toNat a ++ f8 f a b)]) [3]⟩
def c3v (N:Int) (l:List Pq) (t e:Nat):LAnn:=s5 l.length t (fun _=>True) (fun i=>[(e,.oarr 4 (N.toNat * N.toNat) (a9t (d0x N.toNat (e9 (l.take i)))))]) []
def b33 (l:List Pq) (a b:Int) (t:Nat):LAnn:=s5 l.length t (fun i=>e9 (l.take i) a b=false) (fun _=>[]) []
def d0t (calls:a1x) (loops:List (Nat × PLoop)) (id:Nat) (g:List Gh):Tab:=⟨a6h,[],calls,loops,[],[],[(id,fun _ _=>g)],[],[],none,false⟩
theorem d4t {calls:a1x} {loops:List (Nat × PLoop)} {id:Nat} {g:List Gh} (h:∀ p∈calls,CallOk Tryz.prog [] p.1 p.2):TabOk Tryz.prog (d0t calls loops id g):=⟨mixed,tys,ints,fun _ _ hf=>h _ (w5 hf),fun _ _ hf=>(by cases hf),fun _ _ hf=>(by cases hf),fun _ hf=>by cases hf⟩
def arP (l:List Pq):MBlk:=.arr l.length (a1n l)
def rlV (N:Int) (x:Nat) (l:List Pq):SV:=.agg [.i .i64 N,.sl x l.length]
def o9 (c:Bool) (l:List Pq):List Pq:=bif c then l else []
theorem a69 {α:Type} (d:α) {l:List α} {i:Nat} (h:i < l.length):l.take (i + 1)=l.take i ++ [b8 d l i]:=by
 rw[s9 d l i h,List.take_add_one,z0i h]; rfl
theorem a7m {α:Type} (d:α) {l l':List α} {j:Nat} (h:j < l.length):b8 d (l ++ l') j=b8 d l j:=by
 rw[s9 d _ _ (by simp; omega),s9 d _ _ h,List.getElem_append_left h]
theorem a9e {α:Type} (d:α) {l:List α} {x:α}:b8 d (l ++ [x]) l.length=x:=by
 rw[s9 d _ _ (by simp)]; simp
theorem c9t {α:Type} (d:α) {l l':List α} {j:Nat} (h:l.length≤j):b8 d (l ++ l') j=b8 d l' (j - l.length):=by
 by_cases h2:j - l.length < l'.length
 ·rw[s9 d _ _ (by simp; omega),s9 d _ _ h2,List.getElem_append_right h]
 ·rw[nthD_out d _ _ (by simp; omega),nthD_out d _ _ (by omega)]
theorem c5k {a b:Nat} (h:a < b):Nat.blt a b=true:=by rw[z0u]; exact h
theorem c5j {a b:Nat} (h:¬ a < b):Nat.blt a b=false:=z0z.2 fun e=>h (by rwa [z0u] at e)
theorem d27 {a:Nat}:Nat.beq a a=true:=z2g a
theorem d26 {a b:Nat} (h:a≠b):Nat.beq a b=false:=z0z.2 fun e=>h (z0b e)
theorem ap1 (F:Pq→Int) (l:List Pq) (x:Pq):∀ j,j < (l ++ [x]).length→(bif Nat.blt j l.length then F (b8 (0,0) l j) else e8 [F x] (j - l.length))=F (b8 (0,0) (l ++ [x]) j):=fun j hj=>by
 by_cases h:j < l.length
 ·rw[c5k h,z0f,a7m _ h]
 ·have:j=l.length:=by simp at hj; omega
  subst this
  rw[c5j h,z0m,a9e]
  rfl
theorem ap2 (F:Pq→Int) (l l':List Pq):∀ j,(bif Nat.blt j l.length then F (b8 (0,0) l j) else F (b8 (0,0) l' (j - l.length)))=F (b8 (0,0) (l ++ l') j):=fun j=>by
 by_cases h:j < l.length
 ·rw[c5k h,z0f,a7m _ h]
 ·rw[c5j h,z0m,c9t _ (by omega)]
theorem a5n {l:List Pq} {a b:Int}:e9 l a b=true↔(a,b)∈l:=by
 simp only[e9,List.any_eq_true,z0d,beq_iff_eq]
 constructor
 ·rintro ⟨p,hp,rfl,rfl⟩; exact hp
 ·intro h; exact⟨_,h,rfl,rfl⟩
@[simp] theorem d7v:e9 []=fun _ _=>false:=rfl
theorem c8c {l l':List Pq} {a b:Int}:e9 (l ++ l') a b=(e9 l a b || e9 l' a b):=by simp[e9]
theorem c8d {p:Pq} {a b:Int}:e9 [p] a b=(a == p.1 && b == p.2):=by
 simp only[e9,List.any_cons,List.any_nil,Bool.or_false]
 rw[z3i]; simp; constructor <;> rintro ⟨rfl,rfl⟩ <;> exact⟨rfl,rfl⟩
theorem b5t {l:List Pq} {i:Nat} (h:i < l.length) (a b:Int):e9 (l.take (i + 1)) a b=((a == (b8 (0,0) l i).1 && b == (b8 (0,0) l i).2) || e9 (l.take i) a b):=by
 rw[a69 (0,0) h,c8c,c8d,Bool.or_comm]
theorem a48 (f:Pf) (a:Nat):f8 f a 0=[]:=rfl
theorem a0b (f:Pf) (a k:Nat):f8 f a (k + 1)=f8 f a k ++ (if f a k=true then [((a:Int),(k:Int))] else []):=by
 unfold f8
 rw[List.range_succ,List.filter_append,List.map_append]
 congr 1
 by_cases h:f a k=true <;> simp[h]
theorem a2n (f:Pf) (n:Nat):d5 f n 0=[]:=rfl
theorem a1k (f:Pf) (n k:Nat):d5 f n (k + 1)=d5 f n k ++ f8 f k n:=by
 unfold d5
 rw[List.range_succ,List.flatMap_append]; simp
theorem a9l (f:Pf) (a k:Nat):(f8 f a k).length≤k:=by
 unfold f8
 rw[List.length_map]
 exact Nat.le_trans (List.length_filter_le _ _) (by simp)
theorem a2z (f:Pf) (n:Nat):∀ k,(d5 f n k).length≤k * n:=by
 intro k
 induction k with
 | zero=>simp[a2n]
 | succ k ih=>rw[a1k,z1b,z3f]; have:=a9l f k n; omega
theorem a73 {f:Pf} {a k:Nat} {p:Pq}:p∈f8 f a k↔∃ b,b < k∧f a b=true∧p=((a:Int),(b:Int)):=by
 simp only[f8,z2h,List.mem_filter,z2q]
 constructor
 ·rintro ⟨b,⟨h1,h2⟩,rfl⟩; exact⟨b,h1,h2,rfl⟩
 ·rintro ⟨b,h1,h2,rfl⟩; exact⟨b,⟨h1,h2⟩,rfl⟩
theorem b8k {f:Pf} {n k:Nat} {p:Pq}:p∈d5 f n k↔∃ a b,a < k∧b < n∧f a b=true∧p=((a:Int),(b:Int)):=by
 simp only[d5,List.mem_flatMap,z2q,a73]
 constructor
 ·rintro ⟨a,h1,b,h2,h3,h4⟩; exact⟨a,b,h1,h2,h3,h4⟩
 ·rintro ⟨a,b,h1,h2,h3,h4⟩; exact⟨a,h1,b,h2,h3,h4⟩
theorem c1f {f g:Pf} {a k:Nat} (h:∀ b,b < k→f a b=g a b):f8 f a k=f8 g a k:=by
 unfold f8
 congr 1
 apply List.filter_congr
 intro b hb
 exact h b (z2q.1 hb)
theorem c02 {f g:Pf} {n k:Nat} (h:∀ a b,a < k→b < n→f a b=g a b):d5 f n k=d5 g n k:=by
 induction k with
 | zero=>rfl
 | succ k ih=>rw[a1k,a1k,ih (fun a b ha hb=>h a b (by omega) hb),c1f (fun b hb=>h k b (by omega) hb)]
theorem b8r {f g:Pf} {N:Int} (h:∀ a b:Nat,(a:Int) < N→(b:Int) < N→f a b=g a b):b9 N f=b9 N g:=c02 fun a b ha hb=>h a b (by omega) (by omega)
theorem b0d {f:Pf} {N a b:Int}:e9 (b9 N f) a b=true↔0≤a∧a < N∧0≤b∧b < N∧f a b=true:=by
 rw[a5n,b9,b8k]
 constructor
 ·rintro ⟨x,y,h1,h2,h3,h4⟩
  simp only[z0g] at h4
  obtain⟨rfl,rfl⟩:=h4
  exact⟨by omega,by omega,by omega,by omega,h3⟩
 ·rintro ⟨h1,h2,h3,h4,h5⟩
  refine⟨a.toNat,b.toNat,by omega,by omega,?_,?_⟩
  ·rw[z1s h1,z1s h3]; exact h5
  ·rw[z1s h1,z1s h3]
theorem y7 {N:Int} {l:List Pq}:d9 N l=true↔0≤N∧N≤64∧∀ p∈l,0≤p.1∧p.1 < N∧0≤p.2∧p.2 < N:=by
 simp only[d9,inB,inR,z0d,z0x,z1o,z1m,z2k]
 constructor
 ·rintro ⟨⟨h1,h2⟩,h3⟩
  exact⟨by omega,by omega,fun p hp=>by obtain⟨⟨⟨q1,q2⟩,q3⟩,q4⟩:=h3 p hp; omega⟩
 ·rintro ⟨h1,h2,h3⟩
  exact⟨⟨by omega,by omega⟩,fun p hp=>by obtain⟨q1,q2,q3,q4⟩:=h3 p hp; exact⟨⟨⟨by omega,by omega⟩,by omega⟩,by omega⟩⟩
theorem b1s {l:List Pq} {i:Nat} (h:i < l.length):b8 (0,0) l i∈l:=by rw[s9 _ _ _ h]; exact z2r h
@[simp] theorem b48 (n:Nat) (f:Pf):(d0x n f).length=n * n:=i9 _ _
theorem d7w {n:Nat} (h:n≤64):n * n≤4096:=z2x h h
theorem b23 {n:Nat} {i:Nat} (h:(i:Int) < (n:Int)) (hn:n≤1099511627776):IntKind.i64.wrap ((i:Int) + 1)=((i + 1:Nat):Int):=wrS (by omega) hn
theorem b7r {N:Int} {l:List Pq} {i:Nat} (h:i < l.length):(l.take (i + 1)).all (inR N)=((l.take i).all (inR N) && inR N (b8 (0,0) l i)):=by
 rw[a69 (0,0) h,List.all_append]; simp
theorem b06 {i n:Nat} (h:decide ((i:Int) < (n:Int))=true):i < n:=by simpa using h
theorem a9y {i n:Nat} (h:decide ((i:Int) < (n:Int))=false) (h2:i≤n):i=n:=by
 have:¬ (i:Int) < (n:Int):=z0l h
 omega
theorem bd {i n:Nat} (h:i < n):(0:Int)≤(i:Int)∧(i:Int) < (n:Int):=by omega
theorem d1c (N:Int) (l:List Pq):(n9 (tab [] [(0,.of (a7q N l 16))]) Tryz.f119 [rlV N 0 l] [arP l] (l8 (.b (d9 N l))))=(
 let a:=(0:Int)
 let c:=(↑l.length:Int)
 let d:=decide (N < a) || decide (N > (64:Int))
 let e:=PLoop.of (a7q N l (16:Nat))
 let f:=N=N∧l.length=l.length
 (d=true→false=d9 N l)∧(d=false→∃(x:PUnit),(∃(x:Nat),(x≤l.length∧(List.take x l).all (inR N)=true)∧(a=(↑x:Int)∧True)∧True)∧∀(x_1:Nat),x_1≤l.length∧(List.take x_1 l).all (inR N)=true→(decide ((↑x_1:Int) < c)=true→(a≤(↑x_1:Int)∧(↑x_1:Int) < c)∧x_1 < l.length∧((decide ((b8 (a,a) l x_1).fst < a) || decide ((b8 (a,a) l x_1).fst ≥ N) || decide ((b8 (a,a) l x_1).snd < a) || decide ((b8 (a,a) l x_1).snd ≥ N))=true→false=d9 N l)∧((decide ((b8 (a,a) l x_1).fst < a) || decide ((b8 (a,a) l x_1).fst ≥ N) || decide ((b8 (a,a) l x_1).snd < a) || decide ((b8 (a,a) l x_1).snd ≥ N))=false→∃(x_2:Nat),(x_2≤l.length∧(List.take x_2 l).all (inR N)=true)∧(e.ann x).mu x_2 < (e.ann x).mu x_1∧(f∧True∧True∧N=N∧decide (N < a)=decide (N < a)∧decide (N < a)=decide (N < a)∧false=false∧True∧l.length=l.length∧c=c∧IntKind.i64.wrap ((↑x_1:Int) + (1:Int))=(↑x_2:Int)∧True)∧(l.length=l.length∧(∀(j:Nat),j < l.length→(b8 (a,a) l j).fst=(b8 (a,a) l j).fst)∧(∀(j:Nat),j < l.length→(b8 (a,a) l j).snd=(b8 (a,a) l j).snd)∧True)∧f∧True))∧(decide ((↑x_1:Int) < c)=false→true=d9 N l))):=by kernel_rfl
theorem v119 (N:Int) (l:List Pq) (hl:L9 l):n9 (tab [] [(0,.of (a7q N l 16))]) Tryz.f119 [rlV N 0 l] [arP l] (l8 (.b (d9 N l))):=by
 rw[d1c]
 simp only[eq_self,true_and,and_true,z0p,imp_self,m5,n5,g8,i9,PLoop.of,s5,a7q,b35,b34,a9z,c3v,b33,AV.len]
 refine⟨fun h=>?_,fun h=>⟨(),⟨0,by simp,rfl⟩,fun i hi=>⟨fun hlt=>?_,fun hlt=>?_⟩⟩⟩
 ·have:inB N=false:=by rw[inB,h]; rfl
  rw[d9,this]; rfl
 ·have hi2:=b06 hlt
  refine⟨bd hi2,hi2,fun hc=>?_,fun hc=>?_⟩
  ·have:inR N (b8 (0,0) l i)=false:=by rw[inR]; exact congrArg (!·) hc
   rw[d9]
   have h2:l.all (inR N)=false:=by
    rw[List.all_eq_false]
    exact⟨_,b1s hi2,by rw[this]; simp⟩
   rw[h2,Bool.and_false]
  ·have:inR N (b8 (0,0) l i)=true:=by rw[inR]; exact congrArg (!·) hc
   exact⟨i + 1,⟨hi2,by rw[b7r hi2,hi.2,this]; rfl⟩,by omega,b23 (by omega) hl⟩
 ·have hi2:=a9y hlt hi.1
  have h3:=hi.2
  rw[hi2,z3n] at h3
  have:inB N=true:=by rw[inB,h]; rfl
  rw[d9,h3,this]; rfl
theorem d11 (N:Int) (l:List Pq):(n9 (tab [] [(0,.of (a7q N l 3))]) Tryz.f103 [rlV N 0 l] [arP l] (l8 (.b (d9 N l))))=(
 let a:=(0:Int)
 let c:=(↑l.length:Int)
 let d:=decide (N < a) || decide (N > (64:Int))
 let e:=PLoop.of (a7q N l (3:Nat))
 let f:=N=N∧l.length=l.length
 (d=true→false=d9 N l)∧(d=false→∃(x:PUnit),(∃(x:Nat),(x≤l.length∧(List.take x l).all (inR N)=true)∧(a=(↑x:Int)∧True)∧True)∧∀(x_1:Nat),x_1≤l.length∧(List.take x_1 l).all (inR N)=true→(decide ((↑x_1:Int) < c)=true→(a≤(↑x_1:Int)∧(↑x_1:Int) < c)∧x_1 < l.length∧(a≤(↑x_1:Int)∧(↑x_1:Int) < c)∧x_1 < l.length∧((decide ((b8 (a,a) l x_1).fst < a) || decide ((b8 (a,a) l x_1).fst ≥ N) || decide ((b8 (a,a) l x_1).snd < a) || decide ((b8 (a,a) l x_1).snd ≥ N))=true→false=d9 N l)∧((decide ((b8 (a,a) l x_1).fst < a) || decide ((b8 (a,a) l x_1).fst ≥ N) || decide ((b8 (a,a) l x_1).snd < a) || decide ((b8 (a,a) l x_1).snd ≥ N))=false→∃(x_2:Nat),(x_2≤l.length∧(List.take x_2 l).all (inR N)=true)∧(e.ann x).mu x_2 < (e.ann x).mu x_1∧(f∧True∧IntKind.i64.wrap ((↑x_1:Int) + (1:Int))=(↑x_2:Int)∧True∧N=N∧decide (N < a)=decide (N < a)∧decide (N < a)=decide (N < a)∧false=false∧True)∧(l.length=l.length∧(∀(j:Nat),j < l.length→(b8 (a,a) l j).fst=(b8 (a,a) l j).fst)∧(∀(j:Nat),j < l.length→(b8 (a,a) l j).snd=(b8 (a,a) l j).snd)∧True)∧f∧True))∧(decide ((↑x_1:Int) < c)=false→true=d9 N l))):=by kernel_rfl
theorem v103 (N:Int) (l:List Pq) (hl:L9 l):n9 (tab [] [(0,.of (a7q N l 3))]) Tryz.f103 [rlV N 0 l] [arP l] (l8 (.b (d9 N l))):=by
 rw[d11]
 simp only[eq_self,true_and,and_true,z0p,imp_self,m5,n5,g8,i9,PLoop.of,s5,a7q,b35,b34,a9z,c3v,b33,AV.len]
 refine⟨fun h=>?_,fun h=>⟨(),⟨0,by simp,rfl⟩,fun i hi=>⟨fun hlt=>?_,fun hlt=>?_⟩⟩⟩
 ·have:inB N=false:=by rw[inB,h]; rfl
  rw[d9,this]; rfl
 ·have hi2:=b06 hlt
  refine⟨bd hi2,hi2,bd hi2,hi2,fun hc=>?_,fun hc=>?_⟩
  ·have:inR N (b8 (0,0) l i)=false:=by rw[inR]; exact congrArg (!·) hc
   rw[d9]
   have h2:l.all (inR N)=false:=by
    rw[List.all_eq_false]
    exact⟨_,b1s hi2,by rw[this]; simp⟩
   rw[h2,Bool.and_false]
  ·have:inR N (b8 (0,0) l i)=true:=by rw[inR]; exact congrArg (!·) hc
   exact⟨i + 1,⟨hi2,by rw[b7r hi2,hi.2,this]; rfl⟩,by omega,b23 (by omega) hl⟩
 ·have hi2:=a9y hlt hi.1
  have h3:=hi.2
  rw[hi2,z3n] at h3
  have:inB N=true:=by rw[inB,h]; rfl
  rw[d9,h3,this]; rfl
theorem d1t (N:Int) (l:List Pq):(n9 (tab [] [(0,.of (b35 l 10 2))]) Tryz.f148 [rlV N 0 l] [arP l] (a79 (e9 l)))=(
 let a:=((0:Int),(0:Int))
 let b:=(↑l.length:Int)
 let c:=PLoop.of (b35 l (10:Nat) (2:Nat))
 let d:=N=N∧l.length=l.length
 ∃(x:PUnit),(∃(x:Nat),(x≤l.length∧True)∧((0:Int)=(↑x:Int)∧True)∧(∀(x_1 y:Int),false=e9 (List.take x l) x_1 y)∧True)∧∀(x_1:Nat),x_1≤l.length∧True→(decide ((↑x_1:Int) < b)=true→((0:Int)≤(↑x_1:Int)∧(↑x_1:Int) < b)∧x_1 < l.length∧∃(x_2:Nat),(x_2≤l.length∧True)∧(c.ann x).mu x_2 < (c.ann x).mu x_1∧(d∧True∧True∧True∧True∧True∧l.length=l.length∧b=b∧IntKind.i64.wrap ((↑x_1:Int) + (1:Int))=(↑x_2:Int)∧True)∧(l.length=l.length∧(∀(j:Nat),j < l.length→(b8 a l j).fst=(b8 a l j).fst)∧(∀(j:Nat),j < l.length→(b8 a l j).snd=(b8 a l j).snd)∧True)∧d∧(∀(x y:Int),(x ==(b8 a l x_1).fst && y ==(b8 a l x_1).snd || e9 (List.take x_1 l) x y)=e9 (List.take x_2 l) x y)∧True)∧(decide ((↑x_1:Int) < b)=false→∀(x y:Int),e9 (List.take x_1 l) x y=e9 l x y)):=by kernel_rfl
theorem v148 (N:Int) (l:List Pq) (hl:L9 l):n9 (tab [] [(0,.of (b35 l 10 2))]) Tryz.f148 [rlV N 0 l] [arP l] (a79 (e9 l)):=by
 rw[d1t]
 simp only[eq_self,true_and,and_true,z0p,imp_self,m5,n5,g8,i9,PLoop.of,s5,a7q,b35,b34,a9z,c3v,b33,AV.len]
 refine⟨(),⟨0,by simp,rfl,by simp⟩,fun i hi=>⟨fun hlt=>?_,fun hlt x y=>?_⟩⟩
 ·have hi2:=b06 hlt
  exact⟨bd hi2,hi2,i + 1,by omega,by omega,b23 (by omega) hl,fun x y=>(b5t hi2 x y).symm⟩
 ·rw[a9y hlt hi,z3n]
theorem d1s (n:Int) (f:Pf):(n9 (d0t [] [(0,.of (b34 n f 11)),(2,a9z n f 15)] 2 [.fresh 2 1 67 2]) Tryz.f147 [.i .i64 n,.mp 0] [.fmapp f] (a6f (b3p n (b9 n f).length) 67 (b9 n f).length (a1n (b9 n f))))=(
 let a:=((0:Int),(0:Int))
 let b:=a9z n f (15:Nat)
 let c:=(0:Int)=(0:Int)∧True
 let d:=b9 n f
 let e:=PLoop.of (b34 n f (11:Nat))
 let g:=(1:Nat)
 ∃(x:PUnit),(∃(x:Nat),(x≤n.toNat∧True)∧((0:Int)=(↑x:Int)∧True)∧(n=n∧(0:Nat)=(d5 f n.toNat x).length)∧((0:Nat)=(d5 f n.toNat x).length∧(d5 f n.toNat x).length=(0:Nat)∧(d5 f n.toNat x).length=(0:Nat)∧True)∧True)∧∀(x_1:Nat),x_1≤n.toNat∧True→(decide ((↑x_1:Int) < n)=true→∃(x_2:Nat),(∃(x:Nat),(x≤n.toNat∧x_2 < n.toNat)∧((0:Int)=(↑x:Int)∧True)∧(n=n∧(d5 f n.toNat x_1).length=(d5 f n.toNat x_2 ++ f8 f x_2 x).length)∧((d5 f n.toNat x_1).length=(d5 f n.toNat x_2 ++ f8 f x_2 x).length∧(∀(j:Nat),j < (d5 f n.toNat x_2 ++ f8 f x_2 x).length→(b8 a (d5 f n.toNat x_1) j).fst=(b8 a (d5 f n.toNat x_2 ++ f8 f x_2 x) j).fst)∧(∀(j:Nat),j < (d5 f n.toNat x_2 ++ f8 f x_2 x).length→(b8 a (d5 f n.toNat x_1) j).snd=(b8 a (d5 f n.toNat x_2 ++ f8 f x_2 x) j).snd)∧True)∧True)∧∀(x_3:Nat),x_3≤n.toNat∧x_2 < n.toNat→(decide ((↑x_3:Int) < n)=true→(f (↑x_1:Int) (↑x_3:Int)=true→(d5 f n.toNat x_2 ++ f8 f x_2 x_3).length=(d5 f n.toNat x_2 ++ f8 f x_2 x_3).length∧g=g∧((d5 f n.toNat x_2 ++ f8 f x_2 x_3).length + g) * (16:Nat)≤(140737488355328:Nat)∧(d5 f n.toNat x_2 ++ f8 f x_2 x_3).length + g≤(9223372036854775807:Nat)∧∃(x:Nat),(x≤n.toNat∧x_2 < n.toNat)∧(b.ann x_2).mu x < (b.ann x_2).mu x_3∧(n=n∧True∧True∧True∧(↑x_1:Int)=(↑x_1:Int)∧n=n∧(n=n∧True)∧n=n∧(↑x_1:Int)=(↑x_1:Int)∧true=true∧(↑x_1:Int)=(↑x_1:Int)∧n=n∧IntKind.i64.wrap ((↑x_3:Int) + (1:Int))=(↑x:Int)∧True)∧(∀(x y:Int),f x y=f x y)∧c∧(n=n∧(d5 f n.toNat x_2 ++ f8 f x_2 x_3).length + g=(d5 f n.toNat x_2 ++ f8 f x_2 x).length)∧((d5 f n.toNat x_2 ++ f8 f x_2
 x_3).length + g=(d5 f n.toNat x_2 ++ f8 f x_2 x).length∧(∀(j:Nat),j < (d5 f n.toNat x_2 ++ f8 f x_2 x).length→(bif j.blt (d5 f n.toNat x_2 ++ f8 f x_2 x_3).length then (b8 a (d5 f n.toNat x_2 ++ f8 f x_2 x_3) j).fst else e8 [(↑x_1:Int)] (j - (d5 f n.toNat x_2 ++ f8 f x_2 x_3).length))=(b8 a (d5 f n.toNat x_2 ++ f8 f x_2 x) j).fst)∧(∀(j:Nat),j < (d5 f n.toNat x_2 ++ f8 f x_2 x).length→(bif j.blt (d5 f n.toNat x_2 ++ f8 f x_2 x_3).length then (b8 a (d5 f n.toNat x_2 ++ f8 f x_2 x_3) j).snd else e8 [(↑x_3:Int)] (j - (d5 f n.toNat x_2 ++ f8 f x_2 x_3).length))=(b8 a (d5 f n.toNat x_2 ++ f8 f x_2 x) j).snd)∧True)∧True)∧(f (↑x_1:Int) (↑x_3:Int)=false→∃(x:Nat),(x≤n.toNat∧x_2 < n.toNat)∧(b.ann x_2).mu x < (b.ann x_2).mu x_3∧(n=n∧True∧True∧True∧(↑x_1:Int)=(↑x_1:Int)∧n=n∧(n=n∧True)∧n=n∧(↑x_1:Int)=(↑x_1:Int)∧true=true∧(↑x_1:Int)=(↑x_1:Int)∧n=n∧IntKind.i64.wrap ((↑x_3:Int) + (1:Int))=(↑x:Int)∧True)∧(∀(x y:Int),f x y=f x y)∧c∧(n=n∧(d5 f n.toNat x_2 ++ f8 f x_2 x_3).length=(d5 f n.toNat x_2 ++ f8 f x_2 x).length)∧((d5 f n.toNat x_2 ++ f8 f x_2 x_3).length=(d5 f n.toNat x_2 ++ f8 f x_2 x).length∧(∀(j:Nat),j < (d5 f n.toNat x_2 ++ f8 f x_2 x).length→(b8 a (d5 f n.toNat x_2 ++ f8 f x_2 x_3) j).fst=(b8 a (d5 f n.toNat x_2 ++ f8 f x_2 x) j).fst)∧(∀(j:Nat),j < (d5 f n.toNat x_2 ++ f8 f x_2 x).length→(b8 a (d5 f n.toNat x_2 ++ f8 f x_2 x_3) j).snd=(b8 a (d5 f n.toNat x_2 ++ f8 f x_2 x) j).snd)∧True)∧True))∧(decide ((↑x_3:Int) < n)=false→∃(x_4:Nat),(x_4≤n.toNat∧True)∧(e.ann x).mu x_4 < (e.ann
 x).mu x_1∧(n=n∧True∧True∧True∧n=n∧(n=n∧True)∧n=n∧IntKind.i64.wrap ((↑x_1:Int) + (1:Int))=(↑x_4:Int)∧True)∧(∀(x y:Int),f x y=f x y)∧c∧(n=n∧(d5 f n.toNat x_2 ++ f8 f x_2 x_3).length=(d5 f n.toNat x_4).length)∧((d5 f n.toNat x_2 ++ f8 f x_2 x_3).length=(d5 f n.toNat x_4).length∧(∀(j:Nat),j < (d5 f n.toNat x_4).length→(b8 a (d5 f n.toNat x_2 ++ f8 f x_2 x_3) j).fst=(b8 a (d5 f n.toNat x_4) j).fst)∧(∀(j:Nat),j < (d5 f n.toNat x_4).length→(b8 a (d5 f n.toNat x_2 ++ f8 f x_2 x_3) j).snd=(b8 a (d5 f n.toNat x_4) j).snd)∧True)∧True))∧(decide ((↑x_1:Int) < n)=false→(d5 f n.toNat x_1).length=d.length∧((∀(j:Nat),j < d.length→(b8 a (d5 f n.toNat x_1) j).fst=(b8 a d j).fst)∧(∀(j:Nat),j < d.length→(b8 a (d5 f n.toNat x_1) j).snd=(b8 a d j).snd)∧True)∧n=n∧(d5 f n.toNat x_1).length=d.length∧True)):=by kernel_rfl
theorem v147 (n:Int) (f:Pf) (hn:0≤n∧n≤64):n9 (d0t [] [(0,.of (b34 n f 11)),(2,a9z n f 15)] 2 [.fresh 2 1 67 2]) Tryz.f147 [.i .i64 n,.mp 0] [.fmapp f] (a6f (b3p n (b9 n f).length) 67 (b9 n f).length (a1n (b9 n f))):=by
 rw[d1s]
 have hn0:=hn.1
 have hn1:=hn.2
 have hN:n.toNat≤64:=by omega
 have hlen:∀ a b,a < n.toNat→b≤n.toNat→(d5 f n.toNat a ++ f8 f a b).length≤8192:=fun a b ha hb=>by
  have h1:=a2z f n.toNat a
  have h2:=a9l f a b
  have h3:a * n.toNat≤64 * 64:=z2x (by omega) hN
  rw[z1b]; omega
 simp only[eq_self,true_and,and_true,z0p,imp_self,m5,n5,g8,i9,PLoop.of,s5,a7q,b35,b34,a9z,c3v,b33,AV.len]
 refine⟨(),⟨0,by simp,rfl,?_⟩,fun a ha=>⟨fun hlt=>⟨a,⟨0,?_⟩,fun b hb=>⟨fun hlb=>⟨fun hf=>?_,fun hf=>?_⟩,fun hlb=>?_⟩⟩,fun hlt=>?_⟩⟩
 ·simp[a2n]
 ·have ha2:a < n.toNat:=by have:=z0e hlt; omega
  simp[a48,ha2]
 ·have hb2:b < n.toNat:=by have:=z0e hlb; omega
  have h1:=hlen a b hb.2 hb.1
  have e:f8 f a (b + 1)=f8 f a b ++ [((a:Int),(b:Int))]:=by rw[a0b,if_pos hf]
  have e2:d5 f n.toNat a ++ f8 f a (b + 1)=(d5 f n.toNat a ++ f8 f a b) ++ [((a:Int),(b:Int))]:=by rw[e,z1y]
  refine⟨by omega,by omega,b + 1,⟨by omega,hb.2⟩,by omega,wrS (n:=n.toNat) hb2 (by omega),?_⟩
  rw[e2]
  have e3:(d5 f n.toNat a ++ f8 f a b ++ [((a:Int),(b:Int))]).length=(d5 f n.toNat a ++ f8 f a b).length + 1:=by rw[z1b (bs:=[((a:Int),(b:Int))])]; rfl
  exact⟨e3.symm,e3.symm,ap1 (·.1) _ _,ap1 (·.2) _ _⟩
 ·have hb2:b < n.toNat:=by have:=z0e hlb; omega
  have e:f8 f a (b + 1)=f8 f a b:=by rw[a0b,if_neg (by rw[hf]; simp),z1f]
  refine⟨b + 1,⟨by omega,hb.2⟩,by omega,wrS (n:=n.toNat) hb2 (by omega),?_⟩
  rw[e]
  simp
 ·have hb2:b=n.toNat:=by have:=z0l hlb; omega
  have e:d5 f n.toNat (a + 1)=d5 f n.toNat a ++ f8 f a b:=by rw[a1k,hb2]
  refine⟨a + 1,by omega,by omega,wrS (n:=n.toNat) hb.2 (by omega),?_⟩
  rw[e]
  simp
 ·have ha2:a=n.toNat:=by have:=z0l hlt; omega
  subst ha2
  simp[b9]
theorem d5f (N:Int) (l:List Pq) (a b:Int):(n9 (tab [c64 []] [(0,.of (b33 l a b 7))]) Tryz.f46 [rlV N 0 l,.i .i64 a,.i .i64 b] [arP l] (l8 (.b (d9 N l && e9 l a b))))=(
 let c:=((0:Int),(0:Int))
 let d:=N=N∧l.length=l.length
 let e:=(↑l.length:Int)
 let f:=d9 N l && e9 l a b
 let g:=PLoop.of (b33 l a b (7:Nat))
 l.length=l.length∧(mkN (fun(j:Nat)=>((b8 c l j).fst,(b8 c l j).snd)) l.length).length≤(1099511627776:Nat)∧((!d9 N (mkN (fun(j:Nat)=>((b8 c l j).fst,(b8 c l j).snd)) l.length))=true→false=f)∧((!d9 N (mkN (fun(j:Nat)=>((b8 c l j).fst,(b8 c l j).snd)) l.length))=false→∃(x:PUnit),(∃(x:Nat),(x≤l.length∧e9 (List.take x l) a b=false)∧((0:Int)=(↑x:Int)∧True)∧True)∧∀(x_1:Nat),x_1≤l.length∧e9 (List.take x_1 l) a b=false→(decide ((↑x_1:Int) < e)=true→((0:Int)≤(↑x_1:Int)∧(↑x_1:Int) < e)∧x_1 < l.length∧(((b8 c l x_1).fst ==a)=true→(0:Int)≤(↑x_1:Int)∧(↑x_1:Int) < e)∧(((b8 c l x_1).fst ==a)=true→x_1 < l.length)∧(((b8 c l x_1).fst ==a && (b8 c l x_1).snd ==b)=true→true=f)∧(((b8 c l x_1).fst ==a && (b8 c l x_1).snd ==b)=false→∃(x_2:Nat),(x_2≤l.length∧e9 (List.take x_2 l) a b=false)∧(g.ann x).mu x_2 < (g.ann x).mu x_1∧(d∧a=a∧b=b∧True∧IntKind.i64.wrap ((↑x_1:Int) + (1:Int))=(↑x_2:Int)∧d∧d9 N (mkN (fun(j:Nat)=>((b8 c l j).fst,(b8 c l j).snd)) l.length)=d9 N (mkN (fun(j:Nat)=>((b8 c l j).fst,(b8 c l j).snd)) l.length)∧false=false∧True)∧(l.length=l.length∧(∀(j:Nat),j < l.length→(b8 c l j).fst=(b8 c l j).fst)∧(∀(j:Nat),j < l.length→(b8 c l j).snd=(b8 c l j).snd)∧True)∧d∧True))∧(decide ((↑x_1:Int) < e)=false→false=f))):=by kernel_rfl
theorem v46 (N:Int) (l:List Pq) (a b:Int) (hl:L9 l):n9 (tab [c64 []] [(0,.of (b33 l a b 7))]) Tryz.f46 [rlV N 0 l,.i .i64 a,.i .i64 b] [arP l] (l8 (.b (d9 N l && e9 l a b))):=by
 rw[d5f]
 simp only[eq_self,true_and,and_true,z0p,imp_self,m5,n5,g8,i9,PLoop.of,s5,a7q,b35,b34,a9z,c3v,b33,AV.len]
 refine⟨hl,fun h=>?_,fun h=>⟨(),⟨0,by simp,rfl⟩,fun i hi=>⟨fun hlt=>?_,fun hlt=>?_⟩⟩⟩
 ·simp at h; simp[h]
 ·have hv:d9 N l=true:=by simpa using h
  have hi2:=b06 hlt
  refine⟨bd hi2,hi2,fun _=>bd hi2,fun _=>hi2,fun hc=>?_,fun hc=>?_⟩
  ·have:e9 l a b=true:=a5n.2 (by simp at hc; rw[← hc.1,← hc.2]; exact b1s hi2)
   rw[hv,this]; rfl
  ·refine⟨i + 1,⟨by omega,?_⟩,by omega,b23 (by omega) hl⟩
   rw[b5t hi2,hi.2,Bool.or_false,← hc]
   rw[z3i]; simp; constructor <;> rintro ⟨rfl,rfl⟩ <;> exact⟨rfl,rfl⟩
 ·have hi2:=a9y hlt hi.1
  have hs:=hi.2
  rw[hi2,z3n] at hs
  rw[hs,Bool.and_false]
theorem d16 (N:Int) (l:List Pq):(n9 (tab [b6n [],c3p [],b6m []] []) Tryz.f109 [rlV N 0 l] [arP l] (a6f (b3p (bif d9 N l then N else 0) (o9 (d9 N l) (b9 N (e9 l))).length) 67 (o9 (d9 N l) (b9 N (e9 l))).length (a1n (o9 (d9 N l) (b9 N (e9 l))))))=(
 let a:=((0:Int),(0:Int))
 let b:=o9 (d9 N l) (b9 N (e9 l))
 l.length=l.length∧(mkN (fun(j:Nat)=>((b8 a l j).fst,(b8 a l j).snd)) l.length).length≤(1099511627776:Nat)∧((!d9 N (mkN (fun(j:Nat)=>((b8 a l j).fst,(b8 a l j).snd)) l.length))=true→b.length=(0:Nat)∧((0:Int)=bif d9 N l then N else(0:Int))∧b.length=(0:Nat)∧True)∧((!d9 N (mkN (fun(j:Nat)=>((b8 a l j).fst,(b8 a l j).snd)) l.length))=false→l.length=l.length∧(mkN (fun(j:Nat)=>((b8 a l j).fst,(b8 a l j).snd)) l.length).length≤(1099511627776:Nat)∧((0:Int)≤N∧N≤(64:Int))∧(AV.ps (b9 N (e9 (mkN (fun(j:Nat)=>((b8 a l j).fst,(b8 a l j).snd)) l.length)))).len=b.length∧((∀(j:Nat),j < b.length→(b8 a (b9 N (e9 (mkN (fun(j:Nat)=>((b8 a l j).fst,(b8 a l j).snd)) l.length))) j).fst=(b8 a b j).fst)∧(∀(j:Nat),j < b.length→(b8 a (b9 N (e9 (mkN (fun(j:Nat)=>((b8 a l j).fst,(b8 a l j).snd)) l.length))) j).snd=(b8 a b j).snd)∧True)∧(N=bif d9 N l then N else(0:Int))∧(AV.ps (b9 N (e9 (mkN (fun(j:Nat)=>((b8 a l j).fst,(b8 a l j).snd)) l.length)))).len=b.length∧True)):=by kernel_rfl
theorem v109 (N:Int) (l:List Pq) (hl:L9 l):n9 (tab [b6n [],c3p [],b6m []] []) Tryz.f109 [rlV N 0 l] [arP l] (a6f (b3p (bif d9 N l then N else 0) (o9 (d9 N l) (b9 N (e9 l))).length) 67 (o9 (d9 N l) (b9 N (e9 l))).length (a1n (o9 (d9 N l) (b9 N (e9 l))))):=by
 rw[d16]
 simp only[eq_self,true_and,and_true,z0p,imp_self,m5,n5,g8,i9,PLoop.of,s5,a7q,b35,b34,a9z,c3v,b33,AV.len]
 refine⟨hl,fun h=>?_,fun h=>?_⟩
 ·have hv:d9 N l=false:=by simpa using h
  simp[hv,o9]
 ·have hv:d9 N l=true:=by simpa using h
  obtain⟨h1,h2,h3⟩:=y7.1 hv
  rw[hv]
  simp only[o9,z0f,eq_self,true_and,and_true,z0p]
  exact⟨hl,h1,h2⟩
end Go.Proofs.YtaeeaniofljmnaaGreatDoor
