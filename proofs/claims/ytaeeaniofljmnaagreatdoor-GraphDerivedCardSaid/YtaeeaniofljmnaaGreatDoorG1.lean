/-
  A part of the proof (G1).
-/
import Derived.Test.YtaeeaniofljmnaaGreatDoorSx18
import Derived.Test.YtaeeaniofljmnaaGreatDoorRows
namespace Go.Proofs.YtaeeaniofljmnaaGreatDoor
set_option linter.unusedSimpArgs false
set_option linter.unusedVariables false
open Go Go.Proofs.YtaeeaniofljmnaaGreatDoor.Sx
set_option maxRecDepth 100000
def a7f:List (Nat × TI):=[
(3,⟨0,1,8,[.i .i64 0],[],0,0,some IntKind.i64,none,[]⟩),
(4,⟨5,1,1,[SV.ff],[],0,0,none,none,[]⟩),
(5,⟨0,1,1,[.i .u8 0],[],0,0,some IntKind.u8,none,[]⟩),
(6,⟨0,1,1,[.i .u8 0],[],0,0,some IntKind.u8,none,[]⟩),
(9,⟨6,1,16,[],[],0,0,none,none,[]⟩),
(22,⟨3,1,24,[SV.nilsl],[],85,9,none,none,[]⟩),
(23,⟨3,1,24,[SV.nilsl],[],3,1,none,none,[]⟩),
(24,⟨3,1,24,[SV.nilsl],[],23,1,none,none,[]⟩),
(26,⟨1,3,72,[SV.nilsl,SV.nilsl,SV.nilsl],[(0,1),(1,1),(2,1)],0,0,none,none,[false,false,false]⟩),
(29,⟨3,1,24,[SV.nilsl],[],67,2,none,none,[]⟩),
(31,⟨1,2,32,[.i .i64 0,SV.nilsl],[(0,1),(1,1)],0,0,none,none,[false,false]⟩),
(32,⟨0,1,8,[.i .i64 0],[],0,0,some IntKind.i64,none,[]⟩),
(67,⟨2,2,16,[.i .i64 0,.i .i64 0],[],3,2,none,some [some IntKind.i64,some IntKind.i64],[]⟩),
(72,⟨0,1,8,[SV.dead],[],0,0,none,none,[]⟩),
(76,⟨0,1,8,[SV.dead],[],0,0,none,none,[]⟩),
(77,⟨0,1,8,[SV.dead],[],0,0,none,none,[]⟩),
(79,⟨0,1,8,[SV.dead],[],0,0,none,none,[]⟩),
(82,⟨0,1,8,[.i .i64 0],[],0,0,some IntKind.i64,none,[]⟩),
(83,⟨0,1,8,[.i .i64 0],[],0,0,some IntKind.i64,none,[]⟩),
(85,⟨1,9,72,[.i .i64 0,.i .i64 0,.i .i64 0,.i .i64 0,.i .i64 0,.i .i64 0,.i .i64 0,.i .i64 0,.i .i64 0],[(0,1),(1,1),(2,1),(3,1),(4,1),(5,1),(6,1),(7,1),(8,1)],0,0,none,some [some IntKind.i64,some IntKind.i64,some IntKind.i64,some IntKind.i64,some IntKind.i64,some IntKind.i64,some IntKind.i64,some IntKind.i64,some IntKind.i64],[false,false,false,false,false,false,false,false,false]⟩),
(93,⟨0,1,8,[SV.dead],[],0,0,none,none,[]⟩),
(98,⟨4,1,8,[SV.nilmap],[],3,4,none,none,[]⟩),
(99,⟨4,1,8,[SV.nilmap],[],3,3,none,none,[]⟩),
(108,⟨4,1,8,[SV.nilmap],[],111,3,none,none,[]⟩),
(111,⟨1,2,16,[.i .i64 0,.i .i64 0],[(0,1),(1,1)],0,0,none,some [some IntKind.i64,some IntKind.i64],[false,false]⟩),
(124,⟨0,1,8,[SV.dead],[],0,0,none,none,[]⟩),
(126,⟨0,1,8,[SV.dead],[],0,0,none,none,[]⟩),
(127,⟨0,1,8,[SV.dead],[],0,0,none,none,[]⟩),
(129,⟨3,1,24,[SV.nilsl],[],31,2,none,none,[]⟩),
(130,⟨0,1,8,[SV.dead],[],0,0,none,none,[]⟩),
(133,⟨3,1,24,[SV.nilsl],[],4,1,none,none,[]⟩),
(157,⟨0,1,8,[SV.dead],[],0,0,none,none,[]⟩),
(118,⟨0,1,8,[SV.dead],[],0,0,none,none,[]⟩),
(136,⟨4,1,8,[SV.nilmap],[],67,4,none,none,[]⟩),
(160,⟨1,8,64,[.i .i64 0,SV.ff,.i .i64 0,.i .i64 0,SV.ff,.i .i64 0,.i .i64 0,SV.ff],[(0,1),(1,1),(2,1),(3,1),(4,1),(5,1),(6,1),(7,1)],0,0,none,none,[]⟩),
(161,⟨2,136,1088,[],[],160,17,none,none,[]⟩)]
theorem tys:∀ t ti,i7 a7f t=some ti→a0x Tryz.prog t ti=true:=by
 intro t ti h
 have key:(a7f.all fun p=>a0x Tryz.prog p.1 p.2)=true:=by kernel_rfl
 exact z2n.1 key _ (y8 h)
theorem ints:∀ t ti,i7 a7f t=some ti→a6i Tryz.prog t ti=true:=by
 intro t ti h
 have key:(a7f.all fun p=>a6i Tryz.prog p.1 p.2)=true:=by kernel_rfl
 exact z2n.1 key _ (y8 h)
theorem mixed:Tryz.prog.follows .mixedOrders=true:=by kernel_rfl
abbrev a2h:=List (Nat × (List MBlk→List SV→Option AR))
abbrev c1c:=List (Nat × Inl)
def tab (calls:a2h) (loops:List (Nat × PLoop)):Tab:=⟨a7f,[],calls,loops,[],[],[],[],[],none,false⟩
theorem a22 {calls:a2h} {loops:List (Nat × PLoop)} (h:∀ p∈calls,CallOk Tryz.prog [] p.1 p.2):TabOk Tryz.prog (tab calls loops):=⟨mixed,tys,ints,fun _ _ hf=>h _ (y8 hf),fun _ _ hf=>(by cases hf),fun _ _ hf=>(by cases hf),fun _ hf=>by cases hf⟩
theorem a82 {f:Nat} {F:List MBlk→List SV→Option AR} {r:a2h} (h:CallOk Tryz.prog [] f F) (h':∀ p∈r,CallOk Tryz.prog [] p.1 p.2):∀ p∈(f,F) :: r,CallOk Tryz.prog [] p.1 p.2:=fun p hp=>by
 rcases z0r.1 hp with rfl | h1
 ·exact h
 ·exact h' p h1
theorem a3w:∀ p∈([]:a2h),CallOk Tryz.prog [] p.1 p.2:=fun p hp=>by cases hp
def a0c:List Int:=[7,7,7,7,7,7,0,7,3,3,3,3,3,3,3,-1,-1]
def a1x:List Bool:=[true,true,true,false,true,true,false,true,false,false,false,false,false,false,false,false,false]
def a2i:List Int:=[-2147483648,0,0,0,-2147483648,-2147483648,0,-2147483648,0,0,0,0,0,0,0,0,0]
def a0b:List Int:=[2147483647,0,0,0,2147483647,2147483647,0,2147483647,0,0,1,0,0,1,-1,0,0]
def y5:List Bool:=[false,true,true,true,true,false,false,false,false,false,false,false,false,false,false,false,false]
def y4:List Int:=[-1,-2,0,0,-2,-2,-2,-1,-2,-2,-2,-2,-2,-2,-2,-2,-2]
def a30:List Int:=[1,1,4,1,1,1,0,1,2,2,2,3,3,3,3,0,0]
def a01:List Bool:=[false,true,true,true,true,false,false,false,true,true,true,true,true,true,true,false,false]
def tbl:MBlk:=.arr 17 [.int .i64 (e8 a0c),.bool (p7 a1x),.int .i64 (e8 a2i),.int .i64 (e8 a0b),.bool (p7 y5),.int .i64 (e8 y4),.int .i64 (e8 a30),.bool (p7 a01)]
def w64 (n:Int):Int:=IntKind.i64.wrap n
def t7 (n m:Int):Bool:=decide (n ≥ 0) && decide (n < m)
def a1e (n:Int):Bool:=decide (n ≥ -2147483648) && decide (n≤2147483647)
def a4m (k:Int):Bool:=k == 1 || k == 2 || k == 3 || k == 5 || k == 6 || k == 8
def a05 (k:Int):Bool:=k == 1 || k == 8 || k == 5 || k == 6
def a0d (k:Int):Bool:=k == 2 || k == 3 || k == 4 || k == 5
def a1p (e:Ev):Bool:=bif e.k == 7 then e.ob == 0 else bif e.k == 9 || e.k == 10 || e.k == 11 then t7 e.ob 4 else bif e.k == 12 || e.k == 13 || e.k == 14 || e.k == 15 then t7 e.ob 4 else bif e.k == 16 || e.k == 17 then decide (e.ob ≥ 0) else t7 e.ob 8
def a3m (e:Ev):Bool:=bif e.k == 11 || e.k == 14 then t7 e.rd 2 else bif e.k == 15 then decide (e.rd ≥ 0) else a1e e.rd && (a05 e.k || e.rd == 0)
def a3c (e:Ev):Bool:=bif e.k == 1 || e.k == 8 then decide (e.en ≥ -1) else bif e.k == 3 || e.k == 4 then decide (e.en ≥ 0) else e.en == -1
def q7 (e:Ev):Bool:=
 decide (1≤e.k) && decide (e.k≤17) && (decide (e.ag < 0) == (e.k == 4)) && decide (0≤e.ix) && a1p e && a3m e && a3c e &&
 decide (0≤e.od) && decide (e.od≤2) && (a4m e.k || e.od == 0) && a1e e.wr && (a0d e.k || e.wr == 0) &&
 (bif e.k == 12 then t7 e.mu 4 else e.mu == -1)
def EL:Els:=⟨67,3,4,23,0,85,31⟩
theorem a2x {n:Int} (h : -9223372036854775808≤n) (h':n≤9223372036854775807):IntKind.i64.wrap n=n:=by
 simp only[IntKind.wrap,IntKind.signed,IntKind.bits]
 simp
 omega
theorem wrS {n i:Nat} (h:i < n) (hn:n≤1099511627776):IntKind.i64.wrap ((i:Int) + 1)=((i + 1:Nat):Int):=by
 rw[a2x (by omega) (by omega)]; omega
def GL:List (Nat × Nat):=[(0,0)]
def gbT:Option (Nat × MBlk):=some (0,tbl)
structure Kit where
 g:Bool:=false
 calls:a2h:=[]
 loops:List (Nat × PLoop):=[]
 inl:c1c:=[]
 takes:List (Nat × (List Slot→List MBlk→List Gh)):=[]
 sure:List Nat:=[]
def Kit.gl (k:Kit):List (Nat × Nat):=match k.g with
 | true=>GL
 | false=>[]
def Kit.tab (k:Kit):Tab:=⟨a7f,k.gl,k.calls,k.loops,[],[],k.takes,k.sure,k.inl,none,false⟩
def a2n (p:Nat × Inl):Prop:=Tryz.prog.funcs[p.1]?=some p.2.fn∧o6 Tryz.prog p.1
theorem Kit.ok {k:Kit} (h:∀ p∈k.calls,CallOk Tryz.prog k.gl p.1 p.2) (hi:∀ p∈k.inl,a2n p):TabOk Tryz.prog k.tab:=⟨mixed,tys,ints,fun _ _ hf=>h _ (y8 hf),fun _ _ hf=>(by cases hf),fun _ _ hf=>hi _ (y8 hf),fun _ hf=>by cases hf⟩
theorem t9:∀ p∈([]:c1c),a2n p:=fun p hp=>by cases hp
theorem a49 {x:Nat × Inl} {r:c1c} (h:a2n x) (h':∀ p∈r,a2n p):∀ p∈x :: r,a2n p:=fun p hp=>by
 rcases z0r.1 hp with rfl | h1
 ·exact h
 ·exact h' p h1
theorem t8 {G:List (Nat × Nat)}:∀ p∈([]:a2h),CallOk Tryz.prog G p.1 p.2:=fun p hp=>by cases hp
theorem m6 {G:List (Nat × Nat)} {f:Nat} {F:List MBlk→List SV→Option AR} {r:a2h} (h:CallOk Tryz.prog G f F) (h':∀ p∈r,CallOk Tryz.prog G p.1 p.2):∀ p∈(f,F) :: r,CallOk Tryz.prog G p.1 p.2:=fun p hp=>by
 rcases z0r.1 hp with rfl | h1
 ·exact h
 ·exact h' p h1
def eqT:Prop:=eqA 17 [.int .i64 (e8 a0c),.bool (p7 a1x),.int .i64 (e8 a2i),.int .i64 (e8 a0b),.bool (p7 y5),.int .i64 (e8 y4),.int .i64 (e8 a30),.bool (p7 a01)]
theorem j6:eqT=True:=j4 _ _
theorem i5 (l:List Nat):l4 l tbl=tbl:=rfl
theorem c3i:x7 tbl tbl:=⟨_,rfl,by simp[tbl,a1k,a9m,kEq]⟩
theorem x4 {G:List (Nat × Nat)} {fid:FuncId} {fn:Func} {ks:List PK} {nm:List (Option AV)} {S:List PV→Option (List Prop × QV)} (hfn:Tryz.prog.funcs[fid]?=some fn) (hok:o6 Tryz.prog fid)
  (hv:∀ av pre rv,S av=some (pre,rv)→(rv.ok=true∧∀ t a,rv=.rv (.sl t a)→a.cols≠[])∧((∀ p∈pre,p)→∃ k:Kit,n7 k.tab fn (a92 0 av) (a2m 0 av) (rv.post EL)∧k.g=false∧(∀ p∈k.calls,CallOk Tryz.prog [] p.1 p.2)∧∀ p∈k.inl,a2n p)):CallOk Tryz.prog G fid (o5 EL none nm ks S):=
 c9b hfn hok (fun g k h=>by cases h) (fun av pre rv h=>(hv av pre rv h).1) fun av pre rv h hp=>by
  obtain⟨k,h1,h2,h3,h4⟩:=(hv av pre rv h).2 hp
  exact⟨k.tab,Kit.ok (by rw[Kit.gl,h2]; exact h3) h4,by simp[Kit.tab,Kit.gl,h2,gbG],rfl,h1⟩
theorem a55 {fid:FuncId} {fn:Func} {ks:List PK} {nm:List (Option AV)} {S:List PV→Option (List Prop × QV)} (hfn:Tryz.prog.funcs[fid]?=some fn) (hok:o6 Tryz.prog fid)
  (hv:∀ av pre rv,S av=some (pre,rv)→(rv.ok=true∧∀ t a,rv=.rv (.sl t a)→a.cols≠[])∧((∀ p∈pre,p)→∃ k:Kit,n7 k.tab fn (a92 1 av) (tbl :: a2m 1 av) (rv.post EL)∧k.g=true∧(∀ p∈k.calls,CallOk Tryz.prog GL p.1 p.2)∧∀ p∈k.inl,a2n p)):CallOk Tryz.prog GL fid (o5 EL gbT nm ks S):=
 c9b hfn hok (fun g k h=>by cases h; exact⟨rfl,rfl,c3i⟩) (fun av pre rv h=>(hv av pre rv h).1) fun av pre rv h hp=>by
  obtain⟨k,h1,h2,h3,h4⟩:=(hv av pre rv h).2 hp
  exact⟨k.tab,Kit.ok (by rw[Kit.gl,h2]; exact h3) h4,by simp[Kit.tab,Kit.gl,h2,gbG,gbT,GL],rfl,h1⟩
abbrev Pf:=Int→Int→Bool
def inR (N:Int) (p:Pq):Bool:=!(decide (p.1 < 0) || decide (p.1 ≥ N) || decide (p.2 < 0) || decide (p.2 ≥ N))
def inB (N:Int):Bool:=!(decide (N < 0) || decide (N > 64))
def d6 (N:Int) (l:List Pq):Bool:=inB N && l.all (inR N)
def L9 {α:Type} (l:List α):Prop:=l.length≤1099511627776
def d5 (l:List Pq):Pf:=fun a b=>l.any (fun p=>p.1 == a && p.2 == b)
def d7 (f:Pf) (a k:Nat):List Pq:=((List.range k).filter (fun b:Nat=>f a b)).map (fun(b:Nat)=>((a:Int),(b:Int)))
def b9 (f:Pf) (n k:Nat):List Pq:=(List.range k).flatMap (fun a=>d7 f a n)
def b7 (N:Int) (f:Pf):List Pq:=b9 f N.toNat N.toNat
def q8 (n:Nat) (f:Pf):List Bool:=mkN (fun i=>f ((i / n:Nat):Int) ((i % n:Nat):Int)) (n * n)
def m7 (n:Nat) (h:List Bool):Pf:=fun a b=>b6 false h (a * n + b).toNat
abbrev Sp:=List AV→Option (List Prop × RV)
def a83 (N:Int):Nat→SV:=fun k=>.agg [.i .i64 N,.sl 0 k]
def b4t:Sp:=fun | [.r N l]=>some ([L9 l],.pl (.b (d6 N l))) | _=>none
def c8b:Sp:=fun | [.r _ l]=>some ([L9 l],.mp (d5 l)) | _=>none
def c5w:Sp:=fun | [.i n,.mp f]=>some ([0≤n∧n≤64],.sl (a83 n) (.ps (b7 n f))) | _=>none
def c7y:Sp:=fun | [.i n,.bs h]=>some ([0≤n∧n≤64,h.length=n.toNat * n.toNat],.sl (a83 n) (.ps (b7 n (m7 n.toNat h)))) | _=>none
def c6a:Sp:=fun | [.r N l]=>some ([d6 N l=true,L9 l],.sl (fun k=>.sl 0 k) (.bs (q8 N.toNat (d5 l)))) | _=>none
def c94:Sp:=fun | [.r N l,.i a,.i b]=>some ([L9 l],.pl (.b (d6 N l && d5 l a b))) | _=>none
def c74:Sp:=fun | [.r N l]=>some ([L9 l],.sl (a83 (bif d6 N l then N else 0)) (.ps (bif d6 N l then b7 N (d5 l) else []))) | _=>none
def b7r (nm:List (Option AV)):Nat × (List MBlk→List SV→Option AR):=(119,a07 EL nm [.r] b4t)
def b68 (nm:List (Option AV)):Nat × (List MBlk→List SV→Option AR):=(103,a07 EL nm [.r] b4t)
def c3c (nm:List (Option AV)):Nat × (List MBlk→List SV→Option AR):=(148,a07 EL nm [.r] c8b)
def b7q (nm:List (Option AV)):Nat × (List MBlk→List SV→Option AR):=(147,a07 EL nm [.i,.mp] c5w)
def d59 (nm:List (Option AV)):Nat × (List MBlk→List SV→Option AR):=(115,a07 EL nm [.i,.bs] c7y)
def d6c (nm:List (Option AV)):Nat × (List MBlk→List SV→Option AR):=(149,a07 EL nm [.r] c6a)
def c5f (nm:List (Option AV)):Nat × (List MBlk→List SV→Option AR):=(109,a07 EL nm [.r] c74)
def p9 (n t:Nat) (P:Nat→Prop) (mem:Nat→List (Nat × MBlk)) (kill:List Nat):LAnn where
 X:=Nat
 inv:=fun i=>i≤n∧P i
 slots:=fun i=>[(t,.i .i64 (i:Int))]
 mem:=mem
 mu:=fun i=>n - i
 kill:=kill
def a6v (N:Int) (l:List Pq) (t:Nat):LAnn:=p9 l.length t (fun i=>(l.take i).all (inR N)=true) (fun _=>[]) []
def b10 (l:List Pq) (t e:Nat):LAnn:=p9 l.length t (fun _=>True) (fun i=>[(e,.mapp (d5 (l.take i)))]) []
def c02 (e:Nat) (l:List Pq):Nat × MBlk:=(e,.oarr 67 l.length (a0e l))
def a6x (n:Int) (f:Pf) (t:Nat):LAnn:=p9 n.toNat t (fun _=>True) (fun a=>[(2,.cells [.i .i64 n,.sl 3 (b9 f n.toNat a).length]),c02 3 (b9 f n.toNat a)]) [3]
def a54 (n:Int) (f:Pf) (t:Nat):PLoop:=⟨Nat,fun a=>p9 n.toNat t (fun _=>a < n.toNat) (fun b=>[(2,.cells [.i .i64 n,.sl 3 (b9 f n.toNat a ++ d7 f a b).length]),c02 3 (b9 f n.toNat a ++ d7 f a b)]) [3]⟩
def b0h (N:Int) (l:List Pq) (t e:Nat):LAnn:=p9 l.length t (fun _=>True) (fun i=>[(e,.oarr 4 (N.toNat * N.toNat) (a4j (q8 N.toNat (d5 (l.take i)))))]) []
def b15 (l:List Pq) (a b:Int) (t:Nat):LAnn:=p9 l.length t (fun i=>d5 (l.take i) a b=false) (fun _=>[]) []
def c1i (calls:a2h) (loops:List (Nat × PLoop)) (id:Nat) (g:List Gh):Tab:=⟨a7f,[],calls,loops,[],[],[(id,fun _ _=>g)],[],[],none,false⟩
theorem c95 {calls:a2h} {loops:List (Nat × PLoop)} {id:Nat} {g:List Gh} (h:∀ p∈calls,CallOk Tryz.prog [] p.1 p.2):TabOk Tryz.prog (c1i calls loops id g):=⟨mixed,tys,ints,fun _ _ hf=>h _ (y8 hf),fun _ _ hf=>(by cases hf),fun _ _ hf=>(by cases hf),fun _ hf=>by cases hf⟩
def arP (l:List Pq):MBlk:=.arr l.length (a0e l)
def arB (l:List Bool):MBlk:=.arr l.length (a4j l)
def rlV (N:Int) (x:Nat) (l:List Pq):SV:=.agg [.i .i64 N,.sl x l.length]
def i4 (c:Bool) (l:List Pq):List Pq:=bif c then l else []
theorem a6f {α:Type} (d:α) {l:List α} {i:Nat} (h:i < l.length):l.take (i + 1)=l.take i ++ [b6 d l i]:=by
 rw[s4 d l i h,List.take_add_one,z0i h]; rfl
theorem b08 {α:Type} (d:α) {l l':List α} {j:Nat} (h:j < l.length):b6 d (l ++ l') j=b6 d l j:=by
 rw[s4 d _ _ (by simp; omega),s4 d _ _ h,List.getElem_append_left h]
theorem b25 {α:Type} (d:α) {l:List α} {x:α}:b6 d (l ++ [x]) l.length=x:=by
 rw[s4 d _ _ (by simp)]; simp
theorem d0g {α:Type} (d:α) {l l':List α} {j:Nat} (h:l.length≤j):b6 d (l ++ l') j=b6 d l' (j - l.length):=by
 by_cases h2:j - l.length < l'.length
 ·rw[s4 d _ _ (by simp; omega),s4 d _ _ h2,List.getElem_append_right h]
 ·rw[nthD_out d _ _ (by simp; omega),nthD_out d _ _ (by omega)]
theorem c6k {a b:Nat} (h:a < b):Nat.blt a b=true:=by rw[z0z]; exact h
theorem c6h {a b:Nat} (h:¬ a < b):Nat.blt a b=false:=z0w.2 fun e=>h (by rwa [z0z] at e)
theorem c2k {a:Nat}:Nat.beq a a=true:=z3b a
theorem c35 {a b:Nat} (h:a≠b):Nat.beq a b=false:=z0w.2 fun e=>h (z0b e)
theorem ap1 (F:Pq→Int) (l:List Pq) (x:Pq):∀ j,j < (l ++ [x]).length→(bif Nat.blt j l.length then F (b6 (0,0) l j) else e8 [F x] (j - l.length))=F (b6 (0,0) (l ++ [x]) j):=fun j hj=>by
 by_cases h:j < l.length
 ·rw[c6k h,z0g,b08 _ h]
 ·have:j=l.length:=by simp at hj; omega
  subst this
  rw[c6h h,z0l,b25]
  rfl
theorem ap2 (F:Pq→Int) (l l':List Pq):∀ j,(bif Nat.blt j l.length then F (b6 (0,0) l j) else F (b6 (0,0) l' (j - l.length)))=F (b6 (0,0) (l ++ l') j):=fun j=>by
 by_cases h:j < l.length
 ·rw[c6k h,z0g,b08 _ h]
 ·rw[c6h h,z0l,d0g _ (by omega)]
theorem a52 {l:List Pq} {a b:Int}:d5 l a b=true↔(a,b)∈l:=by
 simp only[d5,List.any_eq_true,z0d,beq_iff_eq]
 constructor
 ·rintro ⟨p,hp,rfl,rfl⟩; exact hp
 ·intro h; exact⟨_,h,rfl,rfl⟩
@[simp] theorem d7x:d5 []=fun _ _=>false:=rfl
theorem b2x {l l':List Pq} {a b:Int}:d5 (l ++ l') a b=(d5 l a b || d5 l' a b):=by simp[d5]
theorem c8n {p:Pq} {a b:Int}:d5 [p] a b=(a == p.1 && b == p.2):=by
 simp only[d5,List.any_cons,List.any_nil,Bool.or_false]
 rw[z2x]; simp; constructor <;> rintro ⟨rfl,rfl⟩ <;> exact⟨rfl,rfl⟩
theorem b0o {l:List Pq} {i:Nat} (h:i < l.length) (a b:Int):d5 (l.take (i + 1)) a b=((a == (b6 (0,0) l i).1 && b == (b6 (0,0) l i).2) || d5 (l.take i) a b):=by
 rw[a6f (0,0) h,b2x,c8n,Bool.or_comm]
theorem a33 (f:Pf) (a:Nat):d7 f a 0=[]:=rfl
theorem y3 (f:Pf) (a k:Nat):d7 f a (k + 1)=d7 f a k ++ (if f a k=true then [((a:Int),(k:Int))] else []):=by
 unfold d7
 rw[List.range_succ,List.filter_append,List.map_append]
 congr 1
 by_cases h:f a k=true <;> simp[h]
theorem a1w (f:Pf) (n:Nat):b9 f n 0=[]:=rfl
theorem a0r (f:Pf) (n k:Nat):b9 f n (k + 1)=b9 f n k ++ d7 f k n:=by
 unfold b9
 rw[List.range_succ,List.flatMap_append]; simp
theorem a7e (f:Pf) (a k:Nat):(d7 f a k).length≤k:=by
 unfold d7
 rw[z3p]
 exact Nat.le_trans (List.length_filter_le _ _) (by simp)
theorem a27 (f:Pf) (n:Nat):∀ k,(b9 f n k).length≤k * n:=by
 intro k
 induction k with
 | zero=>simp[a1w]
 | succ k ih=>rw[a0r,z0x,z3c]; have:=a7e f k n; omega
theorem a7h {f:Pf} {a k:Nat} {p:Pq}:p∈d7 f a k↔∃ b,b < k∧f a b=true∧p=((a:Int),(b:Int)):=by
 simp only[d7,z2k,List.mem_filter,z2t]
 constructor
 ·rintro ⟨b,⟨h1,h2⟩,rfl⟩; exact⟨b,h1,h2,rfl⟩
 ·rintro ⟨b,h1,h2,rfl⟩; exact⟨b,⟨h1,h2⟩,rfl⟩
theorem b9n {f:Pf} {n k:Nat} {p:Pq}:p∈b9 f n k↔∃ a b,a < k∧b < n∧f a b=true∧p=((a:Int),(b:Int)):=by
 simp only[b9,List.mem_flatMap,z2t,a7h]
 constructor
 ·rintro ⟨a,h1,b,h2,h3,h4⟩; exact⟨a,b,h1,h2,h3,h4⟩
 ·rintro ⟨a,b,h1,h2,h3,h4⟩; exact⟨a,h1,b,h2,h3,h4⟩
theorem c0t {f g:Pf} {a k:Nat} (h:∀ b,b < k→f a b=g a b):d7 f a k=d7 g a k:=by
 unfold d7
 congr 1
 apply List.filter_congr
 intro b hb
 exact h b (z2t.1 hb)
theorem c07 {f g:Pf} {n k:Nat} (h:∀ a b,a < k→b < n→f a b=g a b):b9 f n k=b9 g n k:=by
 induction k with
 | zero=>rfl
 | succ k ih=>rw[a0r,a0r,ih (fun a b ha hb=>h a b (by omega) hb),c0t (fun b hb=>h k b (by omega) hb)]
theorem a73 {f g:Pf} {N:Int} (h:∀ a b:Nat,(a:Int) < N→(b:Int) < N→f a b=g a b):b7 N f=b7 N g:=c07 fun a b ha hb=>h a b (by omega) (by omega)
theorem a7t {f:Pf} {N a b:Int}:d5 (b7 N f) a b=true↔0≤a∧a < N∧0≤b∧b < N∧f a b=true:=by
 rw[a52,b7,b9n]
 constructor
 ·rintro ⟨x,y,h1,h2,h3,h4⟩
  simp only[z0f] at h4
  obtain⟨rfl,rfl⟩:=h4
  exact⟨by omega,by omega,by omega,by omega,h3⟩
 ·rintro ⟨h1,h2,h3,h4,h5⟩
  refine⟨a.toNat,b.toNat,by omega,by omega,?_,?_⟩
  ·rw[z1b h1,z1b h3]; exact h5
  ·rw[z1b h1,z1b h3]
theorem w5 {N:Int} {l:List Pq}:d6 N l=true↔0≤N∧N≤64∧∀ p∈l,0≤p.1∧p.1 < N∧0≤p.2∧p.2 < N:=by
 simp only[d6,inB,inR,z0d,z0v,z1o,z1g,z2n]
 constructor
 ·rintro ⟨⟨h1,h2⟩,h3⟩
  exact⟨by omega,by omega,fun p hp=>by obtain⟨⟨⟨q1,q2⟩,q3⟩,q4⟩:=h3 p hp; omega⟩
 ·rintro ⟨h1,h2,h3⟩
  exact⟨⟨by omega,by omega⟩,fun p hp=>by obtain⟨q1,q2,q3,q4⟩:=h3 p hp; exact⟨⟨⟨by omega,by omega⟩,by omega⟩,by omega⟩⟩
theorem a7y {l:List Pq} {i:Nat} (h:i < l.length):b6 (0,0) l i∈l:=by rw[s4 _ _ _ h]; exact z2f h
theorem z5 {n:Nat} {f:Pf} {i:Nat} (h:i < n * n):b6 false (q8 n f) i=f ((i / n:Nat):Int) ((i % n:Nat):Int):=w6 _ _ h
@[simp] theorem a5w (n:Nat) (f:Pf):(q8 n f).length=n * n:=g9 _ _
theorem b3g {n a b:Nat} (ha:a < n) (hb:b < n):a * n + b < n * n:=by
 have:(a + 1) * n≤n * n:=z1u _ ha
 rw[z3c] at this
 omega
theorem c19 {n a b:Nat} (hb:b < n):(a * n + b) / n=a:=by
 rw[Nat.mul_comm,Nat.mul_add_div (by omega),Nat.div_eq_of_lt hb,z1k]
theorem c11 {n a b:Nat} (hb:b < n):(a * n + b) % n=b:=by
 rw[Nat.mul_comm,Nat.mul_add_mod,Nat.mod_eq_of_lt hb]
theorem c5g {n:Nat} {f:Pf} {a b:Nat} (ha:a < n) (hb:b < n):m7 n (q8 n f) a b=f a b:=by
 unfold m7
 have e:((a:Int) * n + b).toNat=a * n + b:=by
  have:(a:Int) * n + b=((a * n + b:Nat):Int):=by push_cast; rfl
  rw[this]; rfl
 rw[e,z5 (b3g ha hb),c19 hb,c11 hb]
theorem c5u {n:Nat} (h:n≤64):n * n≤4096:=z2i h h
theorem b00 {n:Nat} {i:Nat} (h:(i:Int) < (n:Int)) (hn:n≤1099511627776):IntKind.i64.wrap ((i:Int) + 1)=((i + 1:Nat):Int):=wrS (by omega) hn
end Go.Proofs.YtaeeaniofljmnaaGreatDoor
