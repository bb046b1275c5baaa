/-
  A part of the proof (J2).
-/
import Derived.Test.YtaeeaniofljmnaaGreatDoorVx18
import Derived.Test.YtaeeaniofljmnaaGreatDoorRows
namespace Go.Proofs.YtaeeaniofljmnaaGreatDoor
set_option linter.unusedSimpArgs false
set_option linter.unusedVariables false
open Go Go.Proofs.YtaeeaniofljmnaaGreatDoor.Sx
set_option maxRecDepth 100000
def a79:List (Nat × TI):=[
(3,⟨0,1,8,[.i .i64 0],[],0,0,some IntKind.i64,none,[]⟩),
(4,⟨5,1,1,[SV.ff],[],0,0,none,none,[]⟩),
(5,⟨0,1,1,[.i .u8 0],[],0,0,some IntKind.u8,none,[]⟩),
(6,⟨0,1,1,[.i .u8 0],[],0,0,some IntKind.u8,none,[]⟩),
(9,⟨6,1,16,[],[],0,0,none,none,[]⟩),
(22,⟨3,1,24,[SV.nilsl],[],85,9,none,none,[]⟩),
(23,⟨3,1,24,[SV.nilsl],[],3,1,none,none,[]⟩),
(24,⟨3,1,24,[SV.nilsl],[],23,1,none,none,[]⟩),
(26,⟨1,3,72,[SV.nilsl,SV.nilsl,SV.nilsl],[(0,1),(1,1),(2,1)],0,0,none,none,[false,false,false]⟩),
(29,⟨3,1,24,[SV.nilsl],[],67,2,none,none,[]⟩),
(31,⟨1,2,32,[.i .i64 0,SV.nilsl],[(0,1),(1,1)],0,0,none,none,[false,false]⟩),
(32,⟨0,1,8,[.i .i64 0],[],0,0,some IntKind.i64,none,[]⟩),
(67,⟨2,2,16,[.i .i64 0,.i .i64 0],[],3,2,none,some [some IntKind.i64,some IntKind.i64],[]⟩),
(72,⟨0,1,8,[SV.dead],[],0,0,none,none,[]⟩),
(76,⟨0,1,8,[SV.dead],[],0,0,none,none,[]⟩),
(77,⟨0,1,8,[SV.dead],[],0,0,none,none,[]⟩),
(79,⟨0,1,8,[SV.dead],[],0,0,none,none,[]⟩),
(82,⟨0,1,8,[.i .i64 0],[],0,0,some IntKind.i64,none,[]⟩),
(83,⟨0,1,8,[.i .i64 0],[],0,0,some IntKind.i64,none,[]⟩),
(85,⟨1,9,72,[.i .i64 0,.i .i64 0,.i .i64 0,.i .i64 0,.i .i64 0,.i .i64 0,.i .i64 0,.i .i64 0,.i .i64 0],[(0,1),(1,1),(2,1),(3,1),(4,1),(5,1),(6,1),(7,1),(8,1)],0,0,none,some [some IntKind.i64,some IntKind.i64,some IntKind.i64,some IntKind.i64,some IntKind.i64,some IntKind.i64,some IntKind.i64,some IntKind.i64,some IntKind.i64],[false,false,false,false,false,false,false,false,false]⟩),
(93,⟨0,1,8,[SV.dead],[],0,0,none,none,[]⟩),
(98,⟨4,1,8,[SV.nilmap],[],3,4,none,none,[]⟩),
(99,⟨4,1,8,[SV.nilmap],[],3,3,none,none,[]⟩),
(108,⟨4,1,8,[SV.nilmap],[],111,3,none,none,[]⟩),
(111,⟨1,2,16,[.i .i64 0,.i .i64 0],[(0,1),(1,1)],0,0,none,some [some IntKind.i64,some IntKind.i64],[false,false]⟩),
(124,⟨0,1,8,[SV.dead],[],0,0,none,none,[]⟩),
(126,⟨0,1,8,[SV.dead],[],0,0,none,none,[]⟩),
(127,⟨0,1,8,[SV.dead],[],0,0,none,none,[]⟩),
(129,⟨3,1,24,[SV.nilsl],[],31,2,none,none,[]⟩),
(130,⟨0,1,8,[SV.dead],[],0,0,none,none,[]⟩),
(133,⟨3,1,24,[SV.nilsl],[],4,1,none,none,[]⟩),
(157,⟨0,1,8,[SV.dead],[],0,0,none,none,[]⟩),
(118,⟨0,1,8,[SV.dead],[],0,0,none,none,[]⟩),
(136,⟨4,1,8,[SV.nilmap],[],67,4,none,none,[]⟩),
(160,⟨1,8,64,[.i .i64 0,SV.ff,.i .i64 0,.i .i64 0,SV.ff,.i .i64 0,.i .i64 0,SV.ff],[(0,1),(1,1),(2,1),(3,1),(4,1),(5,1),(6,1),(7,1)],0,0,none,none,[]⟩),
(161,⟨2,136,1088,[],[],160,17,none,none,[]⟩)]
theorem tys:∀ t ti,i7 a79 t=some ti→a18 Tryz.prog t ti=true:=by
 intro t ti h
 have key:(a79.all fun p=>a18 Tryz.prog p.1 p.2)=true:=by kernel_rfl
 exact z2h.1 key _ (v8 h)
theorem ints:∀ t ti,i7 a79 t=some ti→a6q Tryz.prog t ti=true:=by
 intro t ti h
 have key:(a79.all fun p=>a6q Tryz.prog p.1 p.2)=true:=by kernel_rfl
 exact z2h.1 key _ (v8 h)
theorem mixed:Tryz.prog.follows .mixedOrders=true:=by kernel_rfl
abbrev a2j:=List (Nat × (List MBlk→List SV→Option AR))
abbrev c13:=List (Nat × Inl)
def tab (calls:a2j) (loops:List (Nat × PLoop)):Tab:=⟨a79,[],calls,loops,[],[],[],[],[],none,false⟩
theorem a4s {calls:a2j} {loops:List (Nat × PLoop)} (h:∀ p∈calls,CallOk Tryz.prog [] p.1 p.2):TabOk Tryz.prog (tab calls loops):=⟨mixed,tys,ints,fun _ _ hf=>h _ (v8 hf),fun _ _ hf=>(by cases hf),fun _ _ hf=>(by cases hf),fun _ hf=>by cases hf⟩
theorem b2a {f:Nat} {F:List MBlk→List SV→Option AR} {r:a2j} (h:CallOk Tryz.prog [] f F) (h':∀ p∈r,CallOk Tryz.prog [] p.1 p.2):∀ p∈(f,F) :: r,CallOk Tryz.prog [] p.1 p.2:=fun p hp=>by
 rcases z0t.1 hp with rfl | h1
 ·exact h
 ·exact h' p h1
theorem a6s:∀ p∈([]:a2j),CallOk Tryz.prog [] p.1 p.2:=fun p hp=>by cases hp
def a0m:List Int:=[7,7,7,7,7,7,0,7,3,3,3,3,3,3,3,-1,-1]
def a29:List Bool:=[true,true,true,false,true,true,false,true,false,false,false,false,false,false,false,false,false]
def a2s:List Int:=[-2147483648,0,0,0,-2147483648,-2147483648,0,-2147483648,0,0,0,0,0,0,0,0,0]
def a0l:List Int:=[2147483647,0,0,0,2147483647,2147483647,0,2147483647,0,0,1,0,0,1,-1,0,0]
def z5:List Bool:=[false,true,true,true,true,false,false,false,false,false,false,false,false,false,false,false,false]
def z4:List Int:=[-1,-2,0,0,-2,-2,-2,-1,-2,-2,-2,-2,-2,-2,-2,-2,-2]
def a3e:List Int:=[1,1,4,1,1,1,0,1,2,2,2,3,3,3,3,0,0]
def a0h:List Bool:=[false,true,true,true,true,false,false,false,true,true,true,true,true,true,true,false,false]
def tbl:MBlk:=.arr 17 [.int .i64 (d9 a0m),.bool (q7 a29),.int .i64 (d9 a2s),.int .i64 (d9 a0l),.bool (q7 z5),.int .i64 (d9 z4),.int .i64 (d9 a3e),.bool (q7 a0h)]
def w64 (n:Int):Int:=IntKind.i64.wrap n
def v5 (n m:Int):Bool:=decide (n ≥ 0) && decide (n < m)
def a1i (n:Int):Bool:=decide (n ≥ -2147483648) && decide (n≤2147483647)
def a4v (k:Int):Bool:=k == 1 || k == 2 || k == 3 || k == 5 || k == 6 || k == 8
def a0k (k:Int):Bool:=k == 1 || k == 8 || k == 5 || k == 6
def a0n (k:Int):Bool:=k == 2 || k == 3 || k == 4 || k == 5
def a1u (e:Ev):Bool:=bif e.k == 7 then e.ob == 0 else bif e.k == 9 || e.k == 10 || e.k == 11 then v5 e.ob 4 else bif e.k == 12 || e.k == 13 || e.k == 14 || e.k == 15 then v5 e.ob 4 else bif e.k == 16 || e.k == 17 then decide (e.ob ≥ 0) else v5 e.ob 8
def a3t (e:Ev):Bool:=bif e.k == 11 || e.k == 14 then v5 e.rd 2 else bif e.k == 15 then decide (e.rd ≥ 0) else a1i e.rd && (a0k e.k || e.rd == 0)
def a3i (e:Ev):Bool:=bif e.k == 1 || e.k == 8 then decide (e.en ≥ -1) else bif e.k == 3 || e.k == 4 then decide (e.en ≥ 0) else e.en == -1
def q9 (e:Ev):Bool:=
 decide (1≤e.k) && decide (e.k≤17) && (decide (e.ag < 0) == (e.k == 4)) && decide (0≤e.ix) && a1u e && a3t e && a3i e &&
 decide (0≤e.od) && decide (e.od≤2) && (a4v e.k || e.od == 0) && a1i e.wr && (a0n e.k || e.wr == 0) &&
 (bif e.k == 12 then v5 e.mu 4 else e.mu == -1)
def EL:Els:=⟨67,3,4,23,0,85,31⟩
theorem a46 {n:Int} (h : -9223372036854775808≤n) (h':n≤9223372036854775807):IntKind.i64.wrap n=n:=by
 simp only[IntKind.wrap,IntKind.signed,IntKind.bits]
 simp
 omega
theorem wrS {n i:Nat} (h:i < n) (hn:n≤1099511627776):IntKind.i64.wrap ((i:Int) + 1)=((i + 1:Nat):Int):=by
 rw[a46 (by omega) (by omega)]; omega
def GL:List (Nat × Nat):=[(0,0)]
def gbT:Option (Nat × MBlk):=some (0,tbl)
structure Kit where
 g:Bool:=false
 calls:a2j:=[]
 loops:List (Nat × PLoop):=[]
 inl:c13:=[]
 takes:List (Nat × (List Slot→List MBlk→List Gh)):=[]
 sure:List Nat:=[]
def Kit.gl (k:Kit):List (Nat × Nat):=match k.g with
 | true=>GL
 | false=>[]
def Kit.tab (k:Kit):Tab:=⟨a79,k.gl,k.calls,k.loops,[],[],k.takes,k.sure,k.inl,none,false⟩
def a26 (p:Nat × Inl):Prop:=Tryz.prog.funcs[p.1]?=some p.2.fn∧p8 Tryz.prog p.1
theorem Kit.ok {k:Kit} (h:∀ p∈k.calls,CallOk Tryz.prog k.gl p.1 p.2) (hi:∀ p∈k.inl,a26 p):TabOk Tryz.prog k.tab:=⟨mixed,tys,ints,fun _ _ hf=>h _ (v8 hf),fun _ _ hf=>(by cases hf),fun _ _ hf=>hi _ (v8 hf),fun _ hf=>by cases hf⟩
theorem u4:∀ p∈([]:c13),a26 p:=fun p hp=>by cases hp
theorem a3s {x:Nat × Inl} {r:c13} (h:a26 x) (h':∀ p∈r,a26 p):∀ p∈x :: r,a26 p:=fun p hp=>by
 rcases z0t.1 hp with rfl | h1
 ·exact h
 ·exact h' p h1
theorem t9 {G:List (Nat × Nat)}:∀ p∈([]:a2j),CallOk Tryz.prog G p.1 p.2:=fun p hp=>by cases hp
theorem m9 {G:List (Nat × Nat)} {f:Nat} {F:List MBlk→List SV→Option AR} {r:a2j} (h:CallOk Tryz.prog G f F) (h':∀ p∈r,CallOk Tryz.prog G p.1 p.2):∀ p∈(f,F) :: r,CallOk Tryz.prog G p.1 p.2:=fun p hp=>by
 rcases z0t.1 hp with rfl | h1
 ·exact h
 ·exact h' p h1
def eqT:Prop:=eqA 17 [.int .i64 (d9 a0m),.bool (q7 a29),.int .i64 (d9 a2s),.int .i64 (d9 a0l),.bool (q7 z5),.int .i64 (d9 z4),.int .i64 (d9 a3e),.bool (q7 a0h)]
theorem j5:eqT=True:=i9 _ _
theorem g9 (l:List Nat):n7 l tbl=tbl:=rfl
theorem b6a:y4 tbl tbl:=⟨_,rfl,by simp[tbl,a1r,a9j,kEq]⟩
theorem x4 {G:List (Nat × Nat)} {fid:FuncId} {fn:Func} {ks:List PK} {nm:List (Option AV)} {S:List PV→Option (List Prop × QV)} (hfn:Tryz.prog.funcs[fid]?=some fn) (hok:p8 Tryz.prog fid)
  (hv:∀ av pre rv,S av=some (pre,rv)→(rv.ok=true∧∀ t a,rv=.rv (.sl t a)→a.cols≠[])∧((∀ p∈pre,p)→∃ k:Kit,p7 k.tab fn (a7t 0 av) (a2e 0 av) (rv.post EL)∧k.g=false∧(∀ p∈k.calls,CallOk Tryz.prog [] p.1 p.2)∧∀ p∈k.inl,a26 p)):CallOk Tryz.prog G fid (o5 EL none nm ks S):=
 c1n hfn hok (fun g k h=>by cases h) (fun av pre rv h=>(hv av pre rv h).1) fun av pre rv h hp=>by
  obtain⟨k,h1,h2,h3,h4⟩:=(hv av pre rv h).2 hp
  exact⟨k.tab,Kit.ok (by rw[Kit.gl,h2]; exact h3) h4,by simp[Kit.tab,Kit.gl,h2,gbG],rfl,h1⟩
theorem a5j {fid:FuncId} {fn:Func} {ks:List PK} {nm:List (Option AV)} {S:List PV→Option (List Prop × QV)} (hfn:Tryz.prog.funcs[fid]?=some fn) (hok:p8 Tryz.prog fid)
  (hv:∀ av pre rv,S av=some (pre,rv)→(rv.ok=true∧∀ t a,rv=.rv (.sl t a)→a.cols≠[])∧((∀ p∈pre,p)→∃ k:Kit,p7 k.tab fn (a7t 1 av) (tbl :: a2e 1 av) (rv.post EL)∧k.g=true∧(∀ p∈k.calls,CallOk Tryz.prog GL p.1 p.2)∧∀ p∈k.inl,a26 p)):CallOk Tryz.prog GL fid (o5 EL gbT nm ks S):=
 c1n hfn hok (fun g k h=>by cases h; exact⟨rfl,rfl,b6a⟩) (fun av pre rv h=>(hv av pre rv h).1) fun av pre rv h hp=>by
  obtain⟨k,h1,h2,h3,h4⟩:=(hv av pre rv h).2 hp
  exact⟨k.tab,Kit.ok (by rw[Kit.gl,h2]; exact h3) h4,by simp[Kit.tab,Kit.gl,h2,gbG,gbT,GL],rfl,h1⟩
abbrev Pf:=Int→Int→Bool
def inR (N:Int) (p:Pq):Bool:=!(decide (p.1 < 0) || decide (p.1 ≥ N) || decide (p.2 < 0) || decide (p.2 ≥ N))
def inB (N:Int):Bool:=!(decide (N < 0) || decide (N > 64))
def d8 (N:Int) (l:List Pq):Bool:=inB N && l.all (inR N)
def L9 {α:Type} (l:List α):Prop:=l.length≤1099511627776
def d7 (l:List Pq):Pf:=fun a b=>l.any (fun p=>p.1 == a && p.2 == b)
def d6 (f:Pf) (a k:Nat):List Pq:=((List.range k).filter (fun b:Nat=>f a b)).map (fun(b:Nat)=>((a:Int),(b:Int)))
def b9 (f:Pf) (n k:Nat):List Pq:=(List.range k).flatMap (fun a=>d6 f a n)
def b7 (N:Int) (f:Pf):List Pq:=b9 f N.toNat N.toNat
def d2d (n:Nat) (f:Pf):List Bool:=mkN (fun i=>f ((i / n:Nat):Int) ((i % n:Nat):Int)) (n * n)
abbrev Sp:=List AV→Option (List Prop × RV)
def b4q (N:Int):Nat→SV:=fun k=>.agg [.i .i64 N,.sl 0 k]
def b5u:Sp:=fun | [.r N l]=>some ([L9 l],.pl (.b (d8 N l))) | _=>none
def c9d:Sp:=fun | [.r _ l]=>some ([L9 l],.mp (d7 l)) | _=>none
def c98:Sp:=fun | [.i n,.mp f]=>some ([0≤n∧n≤64],.sl (b4q n) (.ps (b7 n f))) | _=>none
def c96:Sp:=fun | [.r N l,.i a,.i b]=>some ([L9 l],.pl (.b (d8 N l && d7 l a b))) | _=>none
def c97:Sp:=fun | [.r N l]=>some ([L9 l],.sl (b4q (bif d8 N l then N else 0)) (.ps (bif d8 N l then b7 N (d7 l) else []))) | _=>none
def b7q (nm:List (Option AV)):Nat × (List MBlk→List SV→Option AR):=(119,a1z EL nm [.r] b5u)
def c7d (nm:List (Option AV)):Nat × (List MBlk→List SV→Option AR):=(103,a1z EL nm [.r] b5u)
def c4x (nm:List (Option AV)):Nat × (List MBlk→List SV→Option AR):=(148,a1z EL nm [.r] c9d)
def b7p (nm:List (Option AV)):Nat × (List MBlk→List SV→Option AR):=(147,a1z EL nm [.i,.mp] c98)
def c4u (nm:List (Option AV)):Nat × (List MBlk→List SV→Option AR):=(109,a1z EL nm [.r] c97)
def q6 (n t:Nat) (P:Nat→Prop) (mem:Nat→List (Nat × MBlk)) (kill:List Nat):LAnn where
 X:=Nat
 inv:=fun i=>i≤n∧P i
 slots:=fun i=>[(t,.i .i64 (i:Int))]
 mem:=mem
 mu:=fun i=>n - i
 kill:=kill
def a8d (N:Int) (l:List Pq) (t:Nat):LAnn:=q6 l.length t (fun i=>(l.take i).all (inR N)=true) (fun _=>[]) []
def b41 (l:List Pq) (t e:Nat):LAnn:=q6 l.length t (fun _=>True) (fun i=>[(e,.mapp (d7 (l.take i)))]) []
def b9x (e:Nat) (l:List Pq):Nat × MBlk:=(e,.oarr 67 l.length (a1l l))
def b40 (n:Int) (f:Pf) (t:Nat):LAnn:=q6 n.toNat t (fun _=>True) (fun a=>[(2,.cells [.i .i64 n,.sl 3 (b9 f n.toNat a).length]),b9x 3 (b9 f n.toNat a)]) [3]
def b0t (n:Int) (f:Pf) (t:Nat):PLoop:=⟨Nat,fun a=>q6 n.toNat t (fun _=>a < n.toNat) (fun b=>[(2,.cells [.i .i64 n,.sl 3 (b9 f n.toNat a ++ d6 f a b).length]),b9x 3 (b9 f n.toNat a ++ d6 f a b)]) [3]⟩
def c54 (N:Int) (l:List Pq) (t e:Nat):LAnn:=q6 l.length t (fun _=>True) (fun i=>[(e,.oarr 4 (N.toNat * N.toNat) (b0l (d2d N.toNat (d7 (l.take i)))))]) []
def b3z (l:List Pq) (a b:Int) (t:Nat):LAnn:=q6 l.length t (fun i=>d7 (l.take i) a b=false) (fun _=>[]) []
def d29 (calls:a2j) (loops:List (Nat × PLoop)) (id:Nat) (g:List Gh):Tab:=⟨a79,[],calls,loops,[],[],[(id,fun _ _=>g)],[],[],none,false⟩
theorem d70 {calls:a2j} {loops:List (Nat × PLoop)} {id:Nat} {g:List Gh} (h:∀ p∈calls,CallOk Tryz.prog [] p.1 p.2):TabOk Tryz.prog (d29 calls loops id g):=⟨mixed,tys,ints,fun _ _ hf=>h _ (v8 hf),fun _ _ hf=>(by cases hf),fun _ _ hf=>(by cases hf),fun _ hf=>by cases hf⟩
def arP (l:List Pq):MBlk:=.arr l.length (a1l l)
def rlV (N:Int) (x:Nat) (l:List Pq):SV:=.agg [.i .i64 N,.sl x l.length]
def l8 (c:Bool) (l:List Pq):List Pq:=bif c then l else []
theorem a70 {α:Type} (d:α) {l:List α} {i:Nat} (h:i < l.length):l.take (i + 1)=l.take i ++ [b6 d l i]:=by
 rw[o6 d l i h,List.take_add_one,z0j h]; rfl
theorem a5i {α:Type} (d:α) {l l':List α} {j:Nat} (h:j < l.length):b6 d (l ++ l') j=b6 d l j:=by
 rw[o6 d _ _ (by simp; omega),o6 d _ _ h,List.getElem_append_left h]
theorem a6u {α:Type} (d:α) {l:List α} {x:α}:b6 d (l ++ [x]) l.length=x:=by
 rw[o6 d _ _ (by simp)]; simp
theorem d19 {α:Type} (d:α) {l l':List α} {j:Nat} (h:l.length≤j):b6 d (l ++ l') j=b6 d l' (j - l.length):=by
 by_cases h2:j - l.length < l'.length
 ·rw[o6 d _ _ (by simp; omega),o6 d _ _ h2,List.getElem_append_right h]
 ·rw[nthD_out d _ _ (by simp; omega),nthD_out d _ _ (by omega)]
theorem c6t {a b:Nat} (h:a < b):Nat.blt a b=true:=by rw[z0u]; exact h
theorem c6s {a b:Nat} (h:¬ a < b):Nat.blt a b=false:=z1a.2 fun e=>h (by rwa [z0u] at e)
theorem d3v {a:Nat}:Nat.beq a a=true:=z2r a
theorem d3u {a b:Nat} (h:a≠b):Nat.beq a b=false:=z1a.2 fun e=>h (z0b e)
theorem ap1 (F:Pq→Int) (l:List Pq) (x:Pq):∀ j,j < (l ++ [x]).length→(bif Nat.blt j l.length then F (b6 (0,0) l j) else d9 [F x] (j - l.length))=F (b6 (0,0) (l ++ [x]) j):=fun j hj=>by
 by_cases h:j < l.length
 ·rw[c6t h,z0f,a5i _ h]
 ·have:j=l.length:=by simp at hj; omega
  subst this
  rw[c6s h,z0l,a6u]
  rfl
theorem ap2 (F:Pq→Int) (l l':List Pq):∀ j,(bif Nat.blt j l.length then F (b6 (0,0) l j) else F (b6 (0,0) l' (j - l.length)))=F (b6 (0,0) (l ++ l') j):=fun j=>by
 by_cases h:j < l.length
 ·rw[c6t h,z0f,a5i _ h]
 ·rw[c6s h,z0l,d19 _ (by omega)]
theorem a4j {l:List Pq} {a b:Int}:d7 l a b=true↔(a,b)∈l:=by
 simp only[d7,List.any_eq_true,z0d,beq_iff_eq]
 constructor
 ·rintro ⟨p,hp,rfl,rfl⟩; exact hp
 ·intro h; exact⟨_,h,rfl,rfl⟩
@[simp] theorem e0o:d7 []=fun _ _=>false:=rfl
theorem b51 {l l':List Pq} {a b:Int}:d7 (l ++ l') a b=(d7 l a b || d7 l' a b):=by simp[d7]
theorem c9k {p:Pq} {a b:Int}:d7 [p] a b=(a == p.1 && b == p.2):=by
 simp only[d7,List.any_cons,List.any_nil,Bool.or_false]
 rw[z3b]; simp; constructor <;> rintro ⟨rfl,rfl⟩ <;> exact⟨rfl,rfl⟩
theorem b6q {l:List Pq} {i:Nat} (h:i < l.length) (a b:Int):d7 (l.take (i + 1)) a b=((a == (b6 (0,0) l i).1 && b == (b6 (0,0) l i).2) || d7 (l.take i) a b):=by
 rw[a70 (0,0) h,b51,c9k,Bool.or_comm]
theorem a44 (f:Pf) (a:Nat):d6 f a 0=[]:=rfl
theorem a04 (f:Pf) (a k:Nat):d6 f a (k + 1)=d6 f a k ++ (if f a k=true then [((a:Int),(k:Int))] else []):=by
 unfold d6
 rw[List.range_succ,List.filter_append,List.map_append]
 congr 1
 by_cases h:f a k=true <;> simp[h]
theorem a2k (f:Pf) (n:Nat):b9 f n 0=[]:=rfl
theorem a1e (f:Pf) (n k:Nat):b9 f n (k + 1)=b9 f n k ++ d6 f k n:=by
 unfold b9
 rw[List.range_succ,List.flatMap_append]; simp
theorem b0b (f:Pf) (a k:Nat):(d6 f a k).length≤k:=by
 unfold d6
 rw[z2s]
 exact Nat.le_trans (List.length_filter_le _ _) (by simp)
theorem a2v (f:Pf) (n:Nat):∀ k,(b9 f n k).length≤k * n:=by
 intro k
 induction k with
 | zero=>simp[a2k]
 | succ k ih=>rw[a1e,z0x,z3k]; have:=b0b f k n; omega
theorem a7q {f:Pf} {a k:Nat} {p:Pq}:p∈d6 f a k↔∃ b,b < k∧f a b=true∧p=((a:Int),(b:Int)):=by
 simp only[d6,z2b,List.mem_filter,z2m]
 constructor
 ·rintro ⟨b,⟨h1,h2⟩,rfl⟩; exact⟨b,h1,h2,rfl⟩
 ·rintro ⟨b,h1,h2,rfl⟩; exact⟨b,⟨h1,h2⟩,rfl⟩
theorem b9h {f:Pf} {n k:Nat} {p:Pq}:p∈b9 f n k↔∃ a b,a < k∧b < n∧f a b=true∧p=((a:Int),(b:Int)):=by
 simp only[b9,List.mem_flatMap,z2m,a7q]
 constructor
 ·rintro ⟨a,h1,b,h2,h3,h4⟩; exact⟨a,b,h1,h2,h3,h4⟩
 ·rintro ⟨a,b,h1,h2,h3,h4⟩; exact⟨a,h1,b,h2,h3,h4⟩
theorem c2l {f g:Pf} {a k:Nat} (h:∀ b,b < k→f a b=g a b):d6 f a k=d6 g a k:=by
 unfold d6
 congr 1
 apply List.filter_congr
 intro b hb
 exact h b (z2m.1 hb)
theorem c16 {f g:Pf} {n k:Nat} (h:∀ a b,a < k→b < n→f a b=g a b):b9 f n k=b9 g n k:=by
 induction k with
 | zero=>rfl
 | succ k ih=>rw[a1e,a1e,ih (fun a b ha hb=>h a b (by omega) hb),c2l (fun b hb=>h k b (by omega) hb)]
theorem b9p {f g:Pf} {N:Int} (h:∀ a b:Nat,(a:Int) < N→(b:Int) < N→f a b=g a b):b7 N f=b7 N g:=c16 fun a b ha hb=>h a b (by omega) (by omega)
theorem a3c {f:Pf} {N a b:Int}:d7 (b7 N f) a b=true↔0≤a∧a < N∧0≤b∧b < N∧f a b=true:=by
 rw[a4j,b7,b9h]
 constructor
 ·rintro ⟨x,y,h1,h2,h3,h4⟩
  simp only[z0g] at h4
  obtain⟨rfl,rfl⟩:=h4
  exact⟨by omega,by omega,by omega,by omega,h3⟩
 ·rintro ⟨h1,h2,h3,h4,h5⟩
  refine⟨a.toNat,b.toNat,by omega,by omega,?_,?_⟩
  ·rw[z1q h1,z1q h3]; exact h5
  ·rw[z1q h1,z1q h3]
theorem a05 {N:Int} {l:List Pq}:d8 N l=true↔0≤N∧N≤64∧∀ p∈l,0≤p.1∧p.1 < N∧0≤p.2∧p.2 < N:=by
 simp only[d8,inB,inR,z0d,z0v,z1k,z1g,z2h]
 constructor
 ·rintro ⟨⟨h1,h2⟩,h3⟩
  exact⟨by omega,by omega,fun p hp=>by obtain⟨⟨⟨q1,q2⟩,q3⟩,q4⟩:=h3 p hp; omega⟩
 ·rintro ⟨h1,h2,h3⟩
  exact⟨⟨by omega,by omega⟩,fun p hp=>by obtain⟨q1,q2,q3,q4⟩:=h3 p hp; exact⟨⟨⟨by omega,by omega⟩,by omega⟩,by omega⟩⟩
theorem b2j {l:List Pq} {i:Nat} (h:i < l.length):b6 (0,0) l i∈l:=by rw[o6 _ _ _ h]; exact z1r h
@[simp] theorem b59 (n:Nat) (f:Pf):(d2d n f).length=n * n:=g8 _ _
theorem e0p {n:Nat} (h:n≤64):n * n≤4096:=z3a h h
theorem b2u {n:Nat} {i:Nat} (h:(i:Int) < (n:Int)) (hn:n≤1099511627776):IntKind.i64.wrap ((i:Int) + 1)=((i + 1:Nat):Int):=wrS (by omega) hn
theorem b8q {N:Int} {l:List Pq} {i:Nat} (h:i < l.length):(l.take (i + 1)).all (inR N)=((l.take i).all (inR N) && inR N (b6 (0,0) l i)):=by
 rw[a70 (0,0) h,List.all_append]; simp
theorem b10 {i n:Nat} (h:decide ((i:Int) < (n:Int))=true):i < n:=by simpa using h
theorem b0q {i n:Nat} (h:decide ((i:Int) < (n:Int))=false) (h2:i≤n):i=n:=by
 have:¬ (i:Int) < (n:Int):=z0i h
 omega
theorem bd {i n:Nat} (h:i < n):(0:Int)≤(i:Int)∧(i:Int) < (n:Int):=by omega
theorem d2t (N:Int) (l:List Pq):(p7 (tab [] [(0,.of (a8d N l 16))]) Tryz.f119 [rlV N 0 l] [arP l] (l4 (.b (d8 N l))))=(
 let a:=(0:Int)
 let c:=(↑l.length:Int)
 let d:=decide (N < a) || decide (N > (64:Int))
 let e:=PLoop.of (a8d N l (16:Nat))
 let f:=N=N∧l.length=l.length
 (d=true→false=d8 N l)∧(d=false→∃(x:PUnit),(∃(x:Nat),(x≤l.length∧(List.take x l).all (inR N)=true)∧(a=(↑x:Int)∧True)∧True)∧∀(x_1:Nat),x_1≤l.length∧(List.take x_1 l).all (inR N)=true→(decide ((↑x_1:Int) < c)=true→(a≤(↑x_1:Int)∧(↑x_1:Int) < c)∧x_1 < l.length∧((decide ((b6 (a,a) l x_1).fst < a) || decide ((b6 (a,a) l x_1).fst ≥ N) || decide ((b6 (a,a) l x_1).snd < a) || decide ((b6 (a,a) l x_1).snd ≥ N))=true→false=d8 N l)∧((decide ((b6 (a,a) l x_1).fst < a) || decide ((b6 (a,a) l x_1).fst ≥ N) || decide ((b6 (a,a) l x_1).snd < a) || decide ((b6 (a,a) l x_1).snd ≥ N))=false→∃(x_2:Nat),(x_2≤l.length∧(List.take x_2 l).all (inR N)=true)∧(e.ann x).mu x_2 < (e.ann x).mu x_1∧(f∧True∧True∧N=N∧decide (N < a)=decide (N < a)∧decide (N < a)=decide (N < a)∧false=false∧True∧l.length=l.length∧c=c∧IntKind.i64.wrap ((↑x_1:Int) + (1:Int))=(↑x_2:Int)∧True)∧(l.length=l.length∧(∀(j:Nat),j < l.length→(b6 (a,a) l j).fst=(b6 (a,a) l j).fst)∧(∀(j:Nat),j < l.length→(b6 (a,a) l j).snd=(b6 (a,a) l j).snd)∧True)∧f∧True))∧(decide ((↑x_1:Int) < c)=false→true=d8 N l))):=by kernel_rfl
theorem v119 (N:Int) (l:List Pq) (hl:L9 l):p7 (tab [] [(0,.of (a8d N l 16))]) Tryz.f119 [rlV N 0 l] [arP l] (l4 (.b (d8 N l))):=by
 rw[d2t]
 simp only[eq_self,true_and,and_true,z0n,imp_self,l9,m6,g7,g8,PLoop.of,q6,a8d,b41,b40,b0t,c54,b3z,AV.len]
 refine⟨fun h=>?_,fun h=>⟨(),⟨0,by simp,rfl⟩,fun i hi=>⟨fun hlt=>?_,fun hlt=>?_⟩⟩⟩
 ·have:inB N=false:=by rw[inB,h]; rfl
  rw[d8,this]; rfl
 ·have hi2:=b10 hlt
  refine⟨bd hi2,hi2,fun hc=>?_,fun hc=>?_⟩
  ·have:inR N (b6 (0,0) l i)=false:=by rw[inR]; exact congrArg (!·) hc
   rw[d8]
   have h2:l.all (inR N)=false:=by
    rw[List.all_eq_false]
    exact⟨_,b2j hi2,by rw[this]; simp⟩
   rw[h2,Bool.and_false]
  ·have:inR N (b6 (0,0) l i)=true:=by rw[inR]; exact congrArg (!·) hc
   exact⟨i + 1,⟨hi2,by rw[b8q hi2,hi.2,this]; rfl⟩,by omega,b2u (by omega) hl⟩
 ·have hi2:=b0q hlt hi.1
  have h3:=hi.2
  rw[hi2,z3l] at h3
  have:inB N=true:=by rw[inB,h]; rfl
  rw[d8,h3,this]; rfl
theorem d2i (N:Int) (l:List Pq):(p7 (tab [] [(0,.of (a8d N l 3))]) Tryz.f103 [rlV N 0 l] [arP l] (l4 (.b (d8 N l))))=(
 let a:=(0:Int)
 let c:=(↑l.length:Int)
 let d:=decide (N < a) || decide (N > (64:Int))
 let e:=PLoop.of (a8d N l (3:Nat))
 let f:=N=N∧l.length=l.length
 (d=true→false=d8 N l)∧(d=false→∃(x:PUnit),(∃(x:Nat),(x≤l.length∧(List.take x l).all (inR N)=true)∧(a=(↑x:Int)∧True)∧True)∧∀(x_1:Nat),x_1≤l.length∧(List.take x_1 l).all (inR N)=true→(decide ((↑x_1:Int) < c)=true→(a≤(↑x_1:Int)∧(↑x_1:Int) < c)∧x_1 < l.length∧(a≤(↑x_1:Int)∧(↑x_1:Int) < c)∧x_1 < l.length∧((decide ((b6 (a,a) l x_1).fst < a) || decide ((b6 (a,a) l x_1).fst ≥ N) || decide ((b6 (a,a) l x_1).snd < a) || decide ((b6 (a,a) l x_1).snd ≥ N))=true→false=d8 N l)∧((decide ((b6 (a,a) l x_1).fst < a) || decide ((b6 (a,a) l x_1).fst ≥ N) || decide ((b6 (a,a) l x_1).snd < a) || decide ((b6 (a,a) l x_1).snd ≥ N))=false→∃(x_2:Nat),(x_2≤l.length∧(List.take x_2 l).all (inR N)=true)∧(e.ann x).mu x_2 < (e.ann x).mu x_1∧(f∧True∧IntKind.i64.wrap ((↑x_1:Int) + (1:Int))=(↑x_2:Int)∧True∧N=N∧decide (N < a)=decide (N < a)∧decide (N < a)=decide (N < a)∧false=false∧True)∧(l.length=l.length∧(∀(j:Nat),j < l.length→(b6 (a,a) l j).fst=(b6 (a,a) l j).fst)∧(∀(j:Nat),j < l.length→(b6 (a,a) l j).snd=(b6 (a,a) l j).snd)∧True)∧f∧True))∧(decide ((↑x_1:Int) < c)=false→true=d8 N l))):=by kernel_rfl
theorem v103 (N:Int) (l:List Pq) (hl:L9 l):p7 (tab [] [(0,.of (a8d N l 3))]) Tryz.f103 [rlV N 0 l] [arP l] (l4 (.b (d8 N l))):=by
 rw[d2i]
 simp only[eq_self,true_and,and_true,z0n,imp_self,l9,m6,g7,g8,PLoop.of,q6,a8d,b41,b40,b0t,c54,b3z,AV.len]
 refine⟨fun h=>?_,fun h=>⟨(),⟨0,by simp,rfl⟩,fun i hi=>⟨fun hlt=>?_,fun hlt=>?_⟩⟩⟩
 ·have:inB N=false:=by rw[inB,h]; rfl
  rw[d8,this]; rfl
 ·have hi2:=b10 hlt
  refine⟨bd hi2,hi2,bd hi2,hi2,fun hc=>?_,fun hc=>?_⟩
  ·have:inR N (b6 (0,0) l i)=false:=by rw[inR]; exact congrArg (!·) hc
   rw[d8]
   have h2:l.all (inR N)=false:=by
    rw[List.all_eq_false]
    exact⟨_,b2j hi2,by rw[this]; simp⟩
   rw[h2,Bool.and_false]
  ·have:inR N (b6 (0,0) l i)=true:=by rw[inR]; exact congrArg (!·) hc
   exact⟨i + 1,⟨hi2,by rw[b8q hi2,hi.2,this]; rfl⟩,by omega,b2u (by omega) hl⟩
 ·have hi2:=b0q hlt hi.1
  have h3:=hi.2
  rw[hi2,z3l] at h3
  have:inB N=true:=by rw[inB,h]; rfl
  rw[d8,h3,this]; rfl
theorem d3e (N:Int) (l:List Pq):(p7 (tab [] [(0,.of (b41 l 10 2))]) Tryz.f148 [rlV N 0 l] [arP l] (a7v (d7 l)))=(
 let a:=((0:Int),(0:Int))
 let b:=(↑l.length:Int)
 let c:=PLoop.of (b41 l (10:Nat) (2:Nat))
 let d:=N=N∧l.length=l.length
 ∃(x:PUnit),(∃(x:Nat),(x≤l.length∧True)∧((0:Int)=(↑x:Int)∧True)∧(∀(x_1 y:Int),false=d7 (List.take x l) x_1 y)∧True)∧∀(x_1:Nat),x_1≤l.length∧True→(decide ((↑x_1:Int) < b)=true→((0:Int)≤(↑x_1:Int)∧(↑x_1:Int) < b)∧x_1 < l.length∧∃(x_2:Nat),(x_2≤l.length∧True)∧(c.ann x).mu x_2 < (c.ann x).mu x_1∧(d∧True∧True∧True∧True∧True∧l.length=l.length∧b=b∧IntKind.i64.wrap ((↑x_1:Int) + (1:Int))=(↑x_2:Int)∧True)∧(l.length=l.length∧(∀(j:Nat),j < l.length→(b6 a l j).fst=(b6 a l j).fst)∧(∀(j:Nat),j < l.length→(b6 a l j).snd=(b6 a l j).snd)∧True)∧d∧(∀(x y:Int),(x ==(b6 a l x_1).fst && y ==(b6 a l x_1).snd || d7 (List.take x_1 l) x y)=d7 (List.take x_2 l) x y)∧True)∧(decide ((↑x_1:Int) < b)=false→∀(x y:Int),d7 (List.take x_1 l) x y=d7 l x y)):=by kernel_rfl
theorem v148 (N:Int) (l:List Pq) (hl:L9 l):p7 (tab [] [(0,.of (b41 l 10 2))]) Tryz.f148 [rlV N 0 l] [arP l] (a7v (d7 l)):=by
 rw[d3e]
 simp only[eq_self,true_and,and_true,z0n,imp_self,l9,m6,g7,g8,PLoop.of,q6,a8d,b41,b40,b0t,c54,b3z,AV.len]
 refine⟨(),⟨0,by simp,rfl,by simp⟩,fun i hi=>⟨fun hlt=>?_,fun hlt x y=>?_⟩⟩
 ·have hi2:=b10 hlt
  exact⟨bd hi2,hi2,i + 1,by omega,by omega,b2u (by omega) hl,fun x y=>(b6q hi2 x y).symm⟩
 ·rw[b0q hlt hi,z3l]
theorem d3d (n:Int) (f:Pf):(p7 (d29 [] [(0,.of (b40 n f 11)),(2,b0t n f 15)] 2 [.fresh 2 1 67 2]) Tryz.f147 [.i .i64 n,.mp 0] [.fmapp f] (a77 (b4q n (b7 n f).length) 67 (b7 n f).length (a1l (b7 n f))))=(
 let a:=((0:Int),(0:Int))
 let b:=b0t n f (15:Nat)
 let c:=(0:Int)=(0:Int)∧True
 let d:=b7 n f
 let e:=PLoop.of (b40 n f (11:Nat))
 let g:=(1:Nat)
 ∃(x:PUnit),(∃(x:Nat),(x≤n.toNat∧True)∧((0:Int)=(↑x:Int)∧True)∧(n=n∧(0:Nat)=(b9 f n.toNat x).length)∧((0:Nat)=(b9 f n.toNat x).length∧(b9 f n.toNat x).length=(0:Nat)∧(b9 f n.toNat x).length=(0:Nat)∧True)∧True)∧∀(x_1:Nat),x_1≤n.toNat∧True→(decide ((↑x_1:Int) < n)=true→∃(x_2:Nat),(∃(x:Nat),(x≤n.toNat∧x_2 < n.toNat)∧((0:Int)=(↑x:Int)∧True)∧(n=n∧(b9 f n.toNat x_1).length=(b9 f n.toNat x_2 ++ d6 f x_2 x).length)∧((b9 f n.toNat x_1).length=(b9 f n.toNat x_2 ++ d6 f x_2 x).length∧(∀(j:Nat),j < (b9 f n.toNat x_2 ++ d6 f x_2 x).length→(b6 a (b9 f n.toNat x_1) j).fst=(b6 a (b9 f n.toNat x_2 ++ d6 f x_2 x) j).fst)∧(∀(j:Nat),j < (b9 f n.toNat x_2 ++ d6 f x_2 x).length→(b6 a (b9 f n.toNat x_1) j).snd=(b6 a (b9 f n.toNat x_2 ++ d6 f x_2 x) j).snd)∧True)∧True)∧∀(x_3:Nat),x_3≤n.toNat∧x_2 < n.toNat→(decide ((↑x_3:Int) < n)=true→(f (↑x_1:Int) (↑x_3:Int)=true→(b9 f n.toNat x_2 ++ d6 f x_2 x_3).length=(b9 f n.toNat x_2 ++ d6 f x_2 x_3).length∧g=g∧((b9 f n.toNat x_2 ++ d6 f x_2 x_3).length + g) * (16:Nat)≤(140737488355328:Nat)∧(b9 f n.toNat x_2 ++ d6 f x_2 x_3).length + g≤(9223372036854775807:Nat)∧∃(x:Nat),(x≤n.toNat∧x_2 < n.toNat)∧(b.ann x_2).mu x < (b.ann x_2).mu x_3∧(n=n∧True∧True∧True∧(↑x_1:Int)=(↑x_1:Int)∧n=n∧(n=n∧True)∧n=n∧(↑x_1:Int)=(↑x_1:Int)∧true=true∧(↑x_1:Int)=(↑x_1:Int)∧n=n∧IntKind.i64.wrap ((↑x_3:Int) + (1:Int))=(↑x:Int)∧True)∧(∀(x y:Int),f x y=f x y)∧c∧(n=n∧(b9 f n.toNat x_2 ++ d6 f x_2 x_3).length + g=(b9 f n.toNat x_2 ++ d6 f x_2 x).length)∧((b9 f n.toNat x_2 ++ d6 f x_2
 x_3).length + g=(b9 f n.toNat x_2 ++ d6 f x_2 x).length∧(∀(j:Nat),j < (b9 f n.toNat x_2 ++ d6 f x_2 x).length→(bif j.blt (b9 f n.toNat x_2 ++ d6 f x_2 x_3).length then (b6 a (b9 f n.toNat x_2 ++ d6 f x_2 x_3) j).fst else d9 [(↑x_1:Int)] (j - (b9 f n.toNat x_2 ++ d6 f x_2 x_3).length))=(b6 a (b9 f n.toNat x_2 ++ d6 f x_2 x) j).fst)∧(∀(j:Nat),j < (b9 f n.toNat x_2 ++ d6 f x_2 x).length→(bif j.blt (b9 f n.toNat x_2 ++ d6 f x_2 x_3).length then (b6 a (b9 f n.toNat x_2 ++ d6 f x_2 x_3) j).snd else d9 [(↑x_3:Int)] (j - (b9 f n.toNat x_2 ++ d6 f x_2 x_3).length))=(b6 a (b9 f n.toNat x_2 ++ d6 f x_2 x) j).snd)∧True)∧True)∧(f (↑x_1:Int) (↑x_3:Int)=false→∃(x:Nat),(x≤n.toNat∧x_2 < n.toNat)∧(b.ann x_2).mu x < (b.ann x_2).mu x_3∧(n=n∧True∧True∧True∧(↑x_1:Int)=(↑x_1:Int)∧n=n∧(n=n∧True)∧n=n∧(↑x_1:Int)=(↑x_1:Int)∧true=true∧(↑x_1:Int)=(↑x_1:Int)∧n=n∧IntKind.i64.wrap ((↑x_3:Int) + (1:Int))=(↑x:Int)∧True)∧(∀(x y:Int),f x y=f x y)∧c∧(n=n∧(b9 f n.toNat x_2 ++ d6 f x_2 x_3).length=(b9 f n.toNat x_2 ++ d6 f x_2 x).length)∧((b9 f n.toNat x_2 ++ d6 f x_2 x_3).length=(b9 f n.toNat x_2 ++ d6 f x_2 x).length∧(∀(j:Nat),j < (b9 f n.toNat x_2 ++ d6 f x_2 x).length→(b6 a (b9 f n.toNat x_2 ++ d6 f x_2 x_3) j).fst=(b6 a (b9 f n.toNat x_2 ++ d6 f x_2 x) j).fst)∧(∀(j:Nat),j < (b9 f n.toNat x_2 ++ d6 f x_2 x).length→(b6 a (b9 f n.toNat x_2 ++ d6 f x_2 x_3) j).snd=(b6 a (b9 f n.toNat x_2 ++ d6 f x_2 x) j).snd)∧True)∧True))∧(decide ((↑x_3:Int) < n)=false→∃(x_4:Nat),(x_4≤n.toNat∧True)∧(e.ann x).mu x_4 < (e.ann
 x).mu x_1∧(n=n∧True∧True∧True∧n=n∧(n=n∧True)∧n=n∧IntKind.i64.wrap ((↑x_1:Int) + (1:Int))=(↑x_4:Int)∧True)∧(∀(x y:Int),f x y=f x y)∧c∧(n=n∧(b9 f n.toNat x_2 ++ d6 f x_2 x_3).length=(b9 f n.toNat x_4).length)∧((b9 f n.toNat x_2 ++ d6 f x_2 x_3).length=(b9 f n.toNat x_4).length∧(∀(j:Nat),j < (b9 f n.toNat x_4).length→(b6 a (b9 f n.toNat x_2 ++ d6 f x_2 x_3) j).fst=(b6 a (b9 f n.toNat x_4) j).fst)∧(∀(j:Nat),j < (b9 f n.toNat x_4).length→(b6 a (b9 f n.toNat x_2 ++ d6 f x_2 x_3) j).snd=(b6 a (b9 f n.toNat x_4) j).snd)∧True)∧True))∧(decide ((↑x_1:Int) < n)=false→(b9 f n.toNat x_1).length=d.length∧((∀(j:Nat),j < d.length→(b6 a (b9 f n.toNat x_1) j).fst=(b6 a d j).fst)∧(∀(j:Nat),j < d.length→(b6 a (b9 f n.toNat x_1) j).snd=(b6 a d j).snd)∧True)∧n=n∧(b9 f n.toNat x_1).length=d.length∧True)):=by kernel_rfl
theorem v147 (n:Int) (f:Pf) (hn:0≤n∧n≤64):p7 (d29 [] [(0,.of (b40 n f 11)),(2,b0t n f 15)] 2 [.fresh 2 1 67 2]) Tryz.f147 [.i .i64 n,.mp 0] [.fmapp f] (a77 (b4q n (b7 n f).length) 67 (b7 n f).length (a1l (b7 n f))):=by
 rw[d3d]
 have hn0:=hn.1
 have hn1:=hn.2
 have hN:n.toNat≤64:=by omega
 have hlen:∀ a b,a < n.toNat→b≤n.toNat→(b9 f n.toNat a ++ d6 f a b).length≤8192:=fun a b ha hb=>by
  have h1:=a2v f n.toNat a
  have h2:=b0b f a b
  have h3:a * n.toNat≤64 * 64:=z3a (by omega) hN
  rw[z0x]; omega
 simp only[eq_self,true_and,and_true,z0n,imp_self,l9,m6,g7,g8,PLoop.of,q6,a8d,b41,b40,b0t,c54,b3z,AV.len]
 refine⟨(),⟨0,by simp,rfl,?_⟩,fun a ha=>⟨fun hlt=>⟨a,⟨0,?_⟩,fun b hb=>⟨fun hlb=>⟨fun hf=>?_,fun hf=>?_⟩,fun hlb=>?_⟩⟩,fun hlt=>?_⟩⟩
 ·simp[a2k]
 ·have ha2:a < n.toNat:=by have:=z0e hlt; omega
  simp[a44,ha2]
 ·have hb2:b < n.toNat:=by have:=z0e hlb; omega
  have h1:=hlen a b hb.2 hb.1
  have e:d6 f a (b + 1)=d6 f a b ++ [((a:Int),(b:Int))]:=by rw[a04,if_pos hf]
  have e2:b9 f n.toNat a ++ d6 f a (b + 1)=(b9 f n.toNat a ++ d6 f a b) ++ [((a:Int),(b:Int))]:=by rw[e,z1z]
  refine⟨by omega,by omega,b + 1,⟨by omega,hb.2⟩,by omega,wrS (n:=n.toNat) hb2 (by omega),?_⟩
  rw[e2]
  have e3:(b9 f n.toNat a ++ d6 f a b ++ [((a:Int),(b:Int))]).length=(b9 f n.toNat a ++ d6 f a b).length + 1:=by rw[z0x (bs:=[((a:Int),(b:Int))])]; rfl
  exact⟨e3.symm,e3.symm,ap1 (·.1) _ _,ap1 (·.2) _ _⟩
 ·have hb2:b < n.toNat:=by have:=z0e hlb; omega
  have e:d6 f a (b + 1)=d6 f a b:=by rw[a04,if_neg (by rw[hf]; simp),z1f]
  refine⟨b + 1,⟨by omega,hb.2⟩,by omega,wrS (n:=n.toNat) hb2 (by omega),?_⟩
  rw[e]
  simp
 ·have hb2:b=n.toNat:=by have:=z0i hlb; omega
  have e:b9 f n.toNat (a + 1)=b9 f n.toNat a ++ d6 f a b:=by rw[a1e,hb2]
  refine⟨a + 1,by omega,by omega,wrS (n:=n.toNat) hb.2 (by omega),?_⟩
  rw[e]
  simp
 ·have ha2:a=n.toNat:=by have:=z0i hlt; omega
  subst ha2
  simp[b7]
theorem d7n (N:Int) (l:List Pq) (a b:Int):(p7 (tab [c7d []] [(0,.of (b3z l a b 7))]) Tryz.f46 [rlV N 0 l,.i .i64 a,.i .i64 b] [arP l] (l4 (.b (d8 N l && d7 l a b))))=(
 let c:=((0:Int),(0:Int))
 let d:=N=N∧l.length=l.length
 let e:=(↑l.length:Int)
 let f:=d8 N l && d7 l a b
 let g:=PLoop.of (b3z l a b (7:Nat))
 l.length=l.length∧(mkN (fun(j:Nat)=>((b6 c l j).fst,(b6 c l j).snd)) l.length).length≤(1099511627776:Nat)∧((!d8 N (mkN (fun(j:Nat)=>((b6 c l j).fst,(b6 c l j).snd)) l.length))=true→false=f)∧((!d8 N (mkN (fun(j:Nat)=>((b6 c l j).fst,(b6 c l j).snd)) l.length))=false→∃(x:PUnit),(∃(x:Nat),(x≤l.length∧d7 (List.take x l) a b=false)∧((0:Int)=(↑x:Int)∧True)∧True)∧∀(x_1:Nat),x_1≤l.length∧d7 (List.take x_1 l) a b=false→(decide ((↑x_1:Int) < e)=true→((0:Int)≤(↑x_1:Int)∧(↑x_1:Int) < e)∧x_1 < l.length∧(((b6 c l x_1).fst ==a)=true→(0:Int)≤(↑x_1:Int)∧(↑x_1:Int) < e)∧(((b6 c l x_1).fst ==a)=true→x_1 < l.length)∧(((b6 c l x_1).fst ==a && (b6 c l x_1).snd ==b)=true→true=f)∧(((b6 c l x_1).fst ==a && (b6 c l x_1).snd ==b)=false→∃(x_2:Nat),(x_2≤l.length∧d7 (List.take x_2 l) a b=false)∧(g.ann x).mu x_2 < (g.ann x).mu x_1∧(d∧a=a∧b=b∧True∧IntKind.i64.wrap ((↑x_1:Int) + (1:Int))=(↑x_2:Int)∧d∧d8 N (mkN (fun(j:Nat)=>((b6 c l j).fst,(b6 c l j).snd)) l.length)=d8 N (mkN (fun(j:Nat)=>((b6 c l j).fst,(b6 c l j).snd)) l.length)∧false=false∧True)∧(l.length=l.length∧(∀(j:Nat),j < l.length→(b6 c l j).fst=(b6 c l j).fst)∧(∀(j:Nat),j < l.length→(b6 c l j).snd=(b6 c l j).snd)∧True)∧d∧True))∧(decide ((↑x_1:Int) < e)=false→false=f))):=by kernel_rfl
theorem v46 (N:Int) (l:List Pq) (a b:Int) (hl:L9 l):p7 (tab [c7d []] [(0,.of (b3z l a b 7))]) Tryz.f46 [rlV N 0 l,.i .i64 a,.i .i64 b] [arP l] (l4 (.b (d8 N l && d7 l a b))):=by
 rw[d7n]
 simp only[eq_self,true_and,and_true,z0n,imp_self,l9,m6,g7,g8,PLoop.of,q6,a8d,b41,b40,b0t,c54,b3z,AV.len]
 refine⟨hl,fun h=>?_,fun h=>⟨(),⟨0,by simp,rfl⟩,fun i hi=>⟨fun hlt=>?_,fun hlt=>?_⟩⟩⟩
 ·simp at h; simp[h]
 ·have hv:d8 N l=true:=by simpa using h
  have hi2:=b10 hlt
  refine⟨bd hi2,hi2,fun _=>bd hi2,fun _=>hi2,fun hc=>?_,fun hc=>?_⟩
  ·have:d7 l a b=true:=a4j.2 (by simp at hc; rw[← hc.1,← hc.2]; exact b2j hi2)
   rw[hv,this]; rfl
  ·refine⟨i + 1,⟨by omega,?_⟩,by omega,b2u (by omega) hl⟩
   rw[b6q hi2,hi.2,Bool.or_false,← hc]
   rw[z3b]; simp; constructor <;> rintro ⟨rfl,rfl⟩ <;> exact⟨rfl,rfl⟩
 ·have hi2:=b0q hlt hi.1
  have hs:=hi.2
  rw[hi2,z3l] at hs
  rw[hs,Bool.and_false]
theorem d2n (N:Int) (l:List Pq):(p7 (tab [b7q [],c4x [],b7p []] []) Tryz.f109 [rlV N 0 l] [arP l] (a77 (b4q (bif d8 N l then N else 0) (l8 (d8 N l) (b7 N (d7 l))).length) 67 (l8 (d8 N l) (b7 N (d7 l))).length (a1l (l8 (d8 N l) (b7 N (d7 l))))))=(
 let a:=((0:Int),(0:Int))
 let b:=l8 (d8 N l) (b7 N (d7 l))
 l.length=l.length∧(mkN (fun(j:Nat)=>((b6 a l j).fst,(b6 a l j).snd)) l.length).length≤(1099511627776:Nat)∧((!d8 N (mkN (fun(j:Nat)=>((b6 a l j).fst,(b6 a l j).snd)) l.length))=true→b.length=(0:Nat)∧((0:Int)=bif d8 N l then N else(0:Int))∧b.length=(0:Nat)∧True)∧((!d8 N (mkN (fun(j:Nat)=>((b6 a l j).fst,(b6 a l j).snd)) l.length))=false→l.length=l.length∧(mkN (fun(j:Nat)=>((b6 a l j).fst,(b6 a l j).snd)) l.length).length≤(1099511627776:Nat)∧((0:Int)≤N∧N≤(64:Int))∧(AV.ps (b7 N (d7 (mkN (fun(j:Nat)=>((b6 a l j).fst,(b6 a l j).snd)) l.length)))).len=b.length∧((∀(j:Nat),j < b.length→(b6 a (b7 N (d7 (mkN (fun(j:Nat)=>((b6 a l j).fst,(b6 a l j).snd)) l.length))) j).fst=(b6 a b j).fst)∧(∀(j:Nat),j < b.length→(b6 a (b7 N (d7 (mkN (fun(j:Nat)=>((b6 a l j).fst,(b6 a l j).snd)) l.length))) j).snd=(b6 a b j).snd)∧True)∧(N=bif d8 N l then N else(0:Int))∧(AV.ps (b7 N (d7 (mkN (fun(j:Nat)=>((b6 a l j).fst,(b6 a l j).snd)) l.length)))).len=b.length∧True)):=by kernel_rfl
theorem v109 (N:Int) (l:List Pq) (hl:L9 l):p7 (tab [b7q [],c4x [],b7p []] []) Tryz.f109 [rlV N 0 l] [arP l] (a77 (b4q (bif d8 N l then N else 0) (l8 (d8 N l) (b7 N (d7 l))).length) 67 (l8 (d8 N l) (b7 N (d7 l))).length (a1l (l8 (d8 N l) (b7 N (d7 l))))):=by
 rw[d2n]
 simp only[eq_self,true_and,and_true,z0n,imp_self,l9,m6,g7,g8,PLoop.of,q6,a8d,b41,b40,b0t,c54,b3z,AV.len]
 refine⟨hl,fun h=>?_,fun h=>?_⟩
 ·have hv:d8 N l=false:=by simpa using h
  simp[hv,l8]
 ·have hv:d8 N l=true:=by simpa using h
  obtain⟨h1,h2,h3⟩:=a05.1 hv
  rw[hv]
  simp only[l8,z0f,eq_self,true_and,and_true,z0n]
  exact⟨hl,h1,h2⟩
end Go.Proofs.YtaeeaniofljmnaaGreatDoor
