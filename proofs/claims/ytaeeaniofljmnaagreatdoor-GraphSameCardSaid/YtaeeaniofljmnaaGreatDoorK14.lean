/-
  A part of the proof (K14).
-/
import Derived.Test.YtaeeaniofljmnaaGreatDoorK8
import Derived.Test.YtaeeaniofljmnaaGreatDoorWx19
namespace Go.Proofs.YtaeeaniofljmnaaGreatDoor
set_option linter.unusedSimpArgs false
set_option linter.unusedVariables false
open Go Go.Proofs.YtaeeaniofljmnaaGreatDoor.Sx
set_option maxRecDepth 100000
def a2v (ps:List (Nat × (Option Addr × Nat))):Tab:=⟨a8e,[],[],[],[],ps,[],[],[],none,false⟩
theorem b22 (ps:List (Nat × (Option Addr × Nat))):TabOk Tryz.prog (a2v ps):=⟨mixed,tys,ints,fun _ _ hf=>(by cases hf),fun _ _ hf=>(by cases hf),fun _ _ hf=>(by cases hf),fun _ hf=>by cases hf⟩
def c55 (g k:Nat) (cx cy:List SV):SV→List MBlk→Prop:=fun sv m=>sv=.fn g [.ptr (a02 k).length 0,.ptr (a02 k ++ [MBlk.cells cx]).length 0]∧m=a02 k ++ [MBlk.cells cx] ++ [MBlk.cells cy]
theorem e09:s5 Tryz.prog 105:=⟨Tryz.f105,Tryz.func105,by kernel_rfl,by kernel_rfl⟩
theorem d3t (cs:List SV) (f:Nat) (ys:List SV) (k:Nat) (ps:List (Nat × (Option Addr × Nat))):s4 (a2v ps) Tryz.f105 [.agg cs,.fn f ys] (a02 k) (c55 144 k cs [.fn f ys])=(
 let a:=a02 k ++ [MBlk.cells cs]
 SV.fn 144 [.ptr (a02 k).length 0,.ptr a.length 0]=SV.fn 144 [.ptr (a02 k).length 0,.ptr a.length 0]∧a02 k ++ [MBlk.cells cs] ++ [MBlk.cells [.fn f ys]]=a02 k ++ [MBlk.cells cs] ++ [MBlk.cells [.fn f ys]]):=by kernel_rfl
theorem b105 (cs:List SV) (f:Nat) (ys:List SV):c40 a2v Tryz.f105 144 (.agg cs) (.fn f ys) cs [.fn f ys]:=fun k ps=>by
 have h:s4 (a2v ps) Tryz.f105 [.agg cs,.fn f ys] (a02 k) (c55 144 k cs [.fn f ys]):=by rw[d3t]; exact⟨rfl,rfl⟩
 exact h
def b7x:List MBlk→List SV→Option AR
 | m,[.agg cs,.fn f ys]=>bif ltL cs m.length && ltL ys m.length then some ⟨[],.fn 144 [.ptr m.length 0,.ptr (m.length + 1) 0],[.cells cs,.cells [.fn f ys]]⟩ else none
 | _,_=>none
theorem d2b {G:List (Nat × Nat)}:CallOk Tryz.prog G 105 b7x:=by
 refine c7t (g:=144) a2v b22 (fun ps=>⟨rfl,rfl⟩) Tryz.func105 e09 fun m vs ar h=>?_
 unfold b7x at h
 split at h
 ·rename_i cs f ys
  cases hc:(ltL cs m.length && ltL ys m.length)
  ·rw[hc] at h; cases h
  ·rw[hc] at h
   cases h
   simp only[z0d] at hc
   exact⟨_,_,_,_,rfl,(by simp only[ltL,SV.ltB,z1r,z0d]; exact hc),.agg _,.fn _ _,rfl,b105 cs f ys⟩
 ·cases h
theorem fo57:s5 Tryz.prog 57:=⟨Tryz.f57,Tryz.func57,by kernel_rfl,by kernel_rfl⟩
theorem d93 (cs:List SV) (f:Nat) (ys:List SV) (k:Nat) (ps:List (Nat × (Option Addr × Nat))):s4 (a2v ps) Tryz.f57 [.agg cs,.fn f ys] (a02 k) (c55 112 k cs [.fn f ys])=(
 let a:=a02 k ++ [MBlk.cells cs]
 SV.fn 112 [.ptr (a02 k).length 0,.ptr a.length 0]=SV.fn 112 [.ptr (a02 k).length 0,.ptr a.length 0]∧a02 k ++ [MBlk.cells cs] ++ [MBlk.cells [.fn f ys]]=a02 k ++ [MBlk.cells cs] ++ [MBlk.cells [.fn f ys]]):=by kernel_rfl
theorem b57 (cs:List SV) (f:Nat) (ys:List SV):c40 a2v Tryz.f57 112 (.agg cs) (.fn f ys) cs [.fn f ys]:=fun k ps=>by
 have h:s4 (a2v ps) Tryz.f57 [.agg cs,.fn f ys] (a02 k) (c55 112 k cs [.fn f ys]):=by rw[d93]; exact⟨rfl,rfl⟩
 exact h
def c26:List MBlk→List SV→Option AR
 | m,[.agg cs,.fn f ys]=>bif ltL cs m.length && ltL ys m.length then some ⟨[],.fn 112 [.ptr m.length 0,.ptr (m.length + 1) 0],[.cells cs,.cells [.fn f ys]]⟩ else none
 | _,_=>none
theorem n57 {G:List (Nat × Nat)}:CallOk Tryz.prog G 57 c26:=by
 refine c7t (g:=112) a2v b22 (fun ps=>⟨rfl,rfl⟩) Tryz.func57 fo57 fun m vs ar h=>?_
 unfold c26 at h
 split at h
 ·rename_i cs f ys
  cases hc:(ltL cs m.length && ltL ys m.length)
  ·rw[hc] at h; cases h
  ·rw[hc] at h
   cases h
   simp only[z0d] at hc
   exact⟨_,_,_,_,rfl,(by simp only[ltL,SV.ltB,z1r,z0d]; exact hc),.agg _,.fn _ _,rfl,b57 cs f ys⟩
 ·cases h
theorem e0c:s5 Tryz.prog 108:=⟨Tryz.f108,Tryz.func108,by kernel_rfl,by kernel_rfl⟩
theorem d3v (cs:List SV) (n:Int) (k:Nat) (ps:List (Nat × (Option Addr × Nat))):s4 (a2v ps) Tryz.f108 [.agg cs,.i .i64 n] (a02 k) (c55 146 k cs [.i .i64 n])=(
 let a:=a02 k ++ [MBlk.cells cs]
 SV.fn 146 [.ptr (a02 k).length 0,.ptr a.length 0]=SV.fn 146 [.ptr (a02 k).length 0,.ptr a.length 0]∧a02 k ++ [MBlk.cells cs] ++ [MBlk.cells [.i .i64 n]]=a02 k ++ [MBlk.cells cs] ++ [MBlk.cells [.i .i64 n]]):=by kernel_rfl
theorem b108 (cs:List SV) (n:Int):c40 a2v Tryz.f108 146 (.agg cs) (.i .i64 n) cs [.i .i64 n]:=fun k ps=>by
 have h:s4 (a2v ps) Tryz.f108 [.agg cs,.i .i64 n] (a02 k) (c55 146 k cs [.i .i64 n]):=by rw[d3v]; exact⟨rfl,rfl⟩
 exact h
def b7y:List MBlk→List SV→Option AR
 | m,[.agg cs,.i .i64 n]=>bif ltL cs m.length then some ⟨[],.fn 146 [.ptr m.length 0,.ptr (m.length + 1) 0],[.cells cs,.cells [.i .i64 n]]⟩ else none
 | _,_=>none
theorem n108 {G:List (Nat × Nat)}:CallOk Tryz.prog G 108 b7y:=by
 refine c7t (g:=146) a2v b22 (fun ps=>⟨rfl,rfl⟩) Tryz.func108 e0c fun m vs ar h=>?_
 unfold b7y at h
 split at h
 ·rename_i cs n
  cases hc:(ltL cs m.length)
  ·rw[hc] at h; cases h
  ·rw[hc] at h
   cases h
   skip
   exact⟨_,_,_,_,rfl,(by simp only[ltL,SV.ltB,z1r,z0d]; exact hc),.agg _,.i _ _,rfl,b108 cs n⟩
 ·cases h
def grV (E:List Ev) (R:List Int) (M:List (List Int)):SV:=.agg [.sl 0 E.length,.sl 1 R.length,.sl 2 M.length]
def grM (E:List Ev) (R:List Int) (M:List (List Int)):List MBlk:=[.arr E.length (i6 E),.arr R.length (e8 R),.arr M.length (i4 M)]
def evA (E:List Ev) (i:Int):Ev:=b7 e0 E i.toNat
def inA (R:List Int) (i:Int):Int:=b7 0 R i.toNat
def poB (a b:Ev) (i k:Int):Bool:=(a.ag == b.ag && decide (i < k)) || (a.k == 16 && (a.ob == b.ag || (b.k == 17 && a.ob == b.ob))) || (b.k == 17 && b.ob == a.ag)
def poF (E:List Ev):Pf:=fun i k=>poB (evA E i) (evA E k) i k
def rfF (R:List Int):Pf:=fun i k=>inA R k == i
def a65 (n:Nat) (f:Pf) (t c e:Nat):LAnn:=s8 n t (fun _=>True) (fun a=>[(c,.cells [.i .i64 (n:Int),.sl e (d8 f n a).length]),c0v e (d8 f n a)]) [e]
def a44 (n:Nat) (f:Pf) (t c e:Nat):PLoop:=⟨Nat,fun a=>s8 n t (fun _=>a < n) (fun b=>[(c,.cells [.i .i64 (n:Int),.sl e (d8 f n a ++ e9 f a b).length]),c0v e (d8 f n a ++ e9 f a b)]) [e]⟩
abbrev SpG:=List PV→Option (List Prop × QV)
def b0u (N:Int) (l:List Pq):QV:=.rv (.sl (b5d N) (.ps l))
def PG:PK:=.ag [.es,.is,.rs]
noncomputable def d1u (c:Nat):Nat × Inl:=(56,{ fn:=Tryz.f56,takes:=[(2,fun _ _=>[.fresh c 1 67 2])] })
noncomputable def allI (n:Nat) (f:Pf) (c e:Nat):Nat × Inl:=(144,{ fn:=Tryz.f144,loops:=[(0,.of (a65 n f 9 c e)),(2,a44 n f 15 c e)] })
def no (n:Nat):List (Option AV):=a1o n none
def d20:Nat × (List MBlk→List SV→Option AR):=(105,b7x)
def b1e (E:List Ev) (i k:Int):Prop:=(0≤i∧i < E.length)∧(0≤k∧k < E.length)
abbrev GF:=List Ev→List Int→List (List Int)→Pf
abbrev GP:=List Ev→List Int→List (List Int)→Int→Int→Prop
def c1b (pc:GP) (fn:GF):SpG:=fun
 | [.lf (.i i),.lf (.i k),.bx [.es E,.is R,.rs M]]=>some ([pc E R M i k],.rv (.pl (.b (fn E R M i k))))
 | _=>none
def pcE:GP:=fun E _ _ i k=>b1e E i k
def pcR:GP:=fun E R _ i k=>b1e E i k∧R.length=E.length
def nmG (E:List Ev) (R:List Int) (M:List (List Int)):List (Option AV):=[some (.es E),some (.is R),some (.rs M)]
def PH:List PK:=[.lf .i,.lf .i,.bx [.es,.is,.rs]]
def boxG (E:List Ev) (R:List Int) (M:List (List Int)):List MBlk:=[.old [.sl 1 E.length,.sl 2 R.length,.sl 3 M.length],.arr E.length (i6 E),.arr R.length (e8 R),.arr M.length (i4 M)]
def d5c (n:Nat) (pc:GP) (fn:GF) (nm:List (Option AV)):Nat × (List MBlk→List SV→Option AR):=(n,q6 EL none nm PH (c1b pc fn))
theorem a10 {i:Int} {n:Nat} (h:0≤i∧i < n):i.toNat < n:=by omega
def poG:GF:=fun E _ _=>poF E
def rfG:GF:=fun _ R _=>rfF R
theorem e0f:s5 Tryz.prog 111:=⟨Tryz.f111,Tryz.func111,by kernel_rfl,by kernel_rfl⟩
theorem e0j:s5 Tryz.prog 117:=⟨Tryz.f117,Tryz.func117,by kernel_rfl,by kernel_rfl⟩
def d5j (i k:Int) (E:List Ev) (R:List Int) (M:List (List Int)):Prop:=s4 (({}:Kit)).tab Tryz.f111 [.i .i64 i,.i .i64 k,.ptr 0 0] (boxG E R M) (m4 (.b (poG E R M i k)))
theorem d3y (i k:Int) (E:List Ev) (R:List Int) (M:List (List Int)):d5j i k E R M=(
 let a:=(b7 e0 E i.toNat).k ==(16:Int) && ((b7 e0 E i.toNat).ob ==(b7 e0 E k.toNat).ag || (b7 e0 E k.toNat).k ==(17:Int) && (b7 e0 E i.toNat).ob ==(b7 e0 E k.toNat).ob)
 let b:=(b7 e0 E i.toNat).ag ==(b7 e0 E k.toNat).ag && decide (i < k)
 ((0:Int)≤i∧i < (↑E.length:Int))∧i.toNat < E.length∧((0:Int)≤k∧k < (↑E.length:Int))∧k.toNat < E.length∧(b=true→true=poG E R M i k)∧(b=false→(a=true→true=poG E R M i k)∧(a=false→((b7 e0 E k.toNat).k ==(17:Int) && (b7 e0 E k.toNat).ob ==(b7 e0 E i.toNat).ag)=poG E R M i k))):=by kernel_rfl
theorem v111 (i k:Int) (E:List Ev) (R:List Int) (M:List (List Int)) (h:pcE E R M i k):d5j i k E R M:=by
 rw[d3y]
 refine⟨h.1,a10 h.1,h.2,a10 h.2,?_⟩
 simp only[poG,poF,poB,evA]
 grind
def d5m (i k:Int) (E:List Ev) (R:List Int) (M:List (List Int)):Prop:=s4 (({}:Kit)).tab Tryz.f117 [.i .i64 i,.i .i64 k,.ptr 0 0] (boxG E R M) (m4 (.b (rfG E R M i k)))
theorem d41 (i k:Int) (E:List Ev) (R:List Int) (M:List (List Int)):d5m i k E R M=(((0:Int)≤k∧k < (↑R.length:Int))∧k.toNat < R.length∧(b7 (0:Int) R k.toNat == i)=rfG E R M i k):=by kernel_rfl
theorem v117 (i k:Int) (E:List Ev) (R:List Int) (M:List (List Int)) (h:pcR E R M i k):d5m i k E R M:=by
 rw[d41]
 have h2:=h.1.2
 rw[← h.2] at h2
 first | exact⟨h2,a10 h2,rfl⟩
theorem n111 (nm:List (Option AV)):CallOk Tryz.prog [] 111 (q6 EL none nm PH (c1b pcE poG)):=z4 Tryz.func111 e0f fun av pre rv h=>by
 unfold c1b at h; split at h <;> cases h
 exact⟨⟨rfl,fun t a e=>by cases e <;> exact z0h _ _⟩,fun hp=>⟨_,v111 _ _ _ _ _ (hp _ (.head _)),rfl,v4,v5⟩⟩
theorem n117 (nm:List (Option AV)):CallOk Tryz.prog [] 117 (q6 EL none nm PH (c1b pcR rfG)):=z4 Tryz.func117 e0j fun av pre rv h=>by
 unfold c1b at h; split at h <;> cases h
 exact⟨⟨rfl,fun t a e=>by cases e <;> exact z0h _ _⟩,fun hp=>⟨_,v117 _ _ _ _ _ (hp _ (.head _)),rfl,v4,v5⟩⟩
theorem b6z (f:Pf) {n:Nat} (hN:n≤64):∀ a b,a < n→b≤n→(d8 f n a ++ e9 f a b).length≤8192:=fun a b ha hb=>by
 have h1:=a32 f n a
 have h2:=b0w f a b
 have h3:a * n≤64 * 64:=z3f (by omega) hN
 rw[z1d]; omega
theorem a6m (f:Pf) (n:Nat):b9 (n:Int) f=d8 f n n:=by simp[b9]
theorem a8i (f:Pf) {n:Nat} (hN:n≤64):g7 n (d8 f n n)=true∧b9 n (f7 (d8 f n n))=b9 n f:=by
 have e:d8 f n n=b9 n f:=(a6m f n).symm
 rw[e]
 refine⟨a0f.2 ⟨by omega,by omega,fun p hp=>?_⟩,c0m fun a b ha hb=>?_⟩
 ·have:=a3k.1 (a4p.2 (show(p.1,p.2)∈b9 n f from hp))
  exact⟨this.1,this.2.1,this.2.2.1,this.2.2.2.1⟩
 ·rw[z2j,a3k]
  exact⟨fun h=>h.2.2.2.2,fun h=>⟨by omega,ha,by omega,hb,h⟩⟩
def b6h (pc:Int→GP) (fn:GF):SpG:=fun
 | [.ag [.es E,.is R,.rs M]]=>some ([pc 64 E R M 0 0],b0u E.length (b9 E.length (fn E R M)))
 | _=>none
def pgE (m:Int):GP:=fun E _ _ _ _=>(E.length:Int)≤m
def pgR (m:Int):GP:=fun E R _ _ _=>(E.length:Int)≤m∧R.length=E.length
theorem fo55:s5 Tryz.prog 55:=⟨Tryz.f55,Tryz.func55,by kernel_rfl,by kernel_rfl⟩
theorem fo61:s5 Tryz.prog 61:=⟨Tryz.f61,Tryz.func61,by kernel_rfl,by kernel_rfl⟩
theorem fo56:s5 Tryz.prog 56:=⟨Tryz.f56,Tryz.func56,by kernel_rfl,by kernel_rfl⟩
theorem d1y {l:List (Nat × PLoop)} {t:List (Nat × (List Slot→List MBlk→List Gh))} {s:List Nat}:a2x (56,⟨Tryz.f56,l,t,s⟩):=⟨Tryz.func56,fo56⟩
theorem e13:s5 Tryz.prog 144:=⟨Tryz.f144,Tryz.func144,by kernel_rfl,by kernel_rfl⟩
theorem c4e {l:List (Nat × PLoop)} {t:List (Nat × (List Slot→List MBlk→List Gh))} {s:List Nat}:a2x (144,⟨Tryz.f144,l,t,s⟩):=⟨Tryz.func144,e13⟩
def q55D (E:List Ev) (R:List Int) (M:List (List Int)):Prop:=s4 (({ calls:=[d20,c5v (no 10 ++ [some (.ps (d8 (poG E R M) E.length E.length))]),d5c 111 pcE poG (nmG E R M)],inl:=[d1u 9,allI E.length (poG E R M) 9 10] }:Kit)).tab Tryz.f55 [grV E R M] (grM E R M) ((b0u E.length (b9 E.length (poG E R M))).post EL)
theorem d91 (E:List Ev) (R:List Int) (M:List (List Int)):q55D E R M=(
 let a:=poG E R M
 let b:=(↑E.length:Int)
 let c:=E.length=E.length∧R.length=R.length∧M.length=M.length
 let d:=((0:Int),(0:Int))
 let e:=b=b∧(True∧True)∧True∧True∧True∧True∧True∧b=b∧(b=b∧True)∧(True∧True)∧True∧True∧True∧True∧True∧True∧True∧True∧True
 let f:=bif g7 b (d8 a E.length E.length) then b9 b (f7 (d8 a E.length E.length)) else []
 let g:=c∧True∧True∧True∧E.length=E.length∧b=b∧c∧True∧(True∧True)∧True
 let h:=a44 E.length a (15:Nat) (9:Nat) (10:Nat)
 let i:=(0:Int)=(0:Int)∧True
 let k:=PLoop.of (a65 E.length a (9:Nat) (9:Nat) (10:Nat))
 let l:=AV.ps (b9 b a)
 let m:=(1:Nat)
 ∀(us us_1:List Value) (cd:LupCd) (x:Option Addr × Nat),∃(x:PUnit),(∃(x:Nat),(x≤E.length∧True)∧((0:Int)=(↑x:Int)∧True)∧(b=b∧(0:Nat)=(d8 a E.length x).length)∧((0:Nat)=(d8 a E.length x).length∧(d8 a E.length x).length=(0:Nat)∧(d8 a E.length x).length=(0:Nat)∧True)∧True)∧∀(x_1:Nat),x_1≤E.length∧True→(decide ((↑x_1:Int) < b)=true→∃(x_2:Nat),(∃(x:Nat),(x≤E.length∧x_2 < E.length)∧((0:Int)=(↑x:Int)∧True)∧(b=b∧(d8 a E.length x_1).length=(d8 a E.length x_2 ++ e9 a x_2 x).length)∧((d8 a E.length x_1).length=(d8 a E.length x_2 ++ e9 a x_2 x).length∧(∀(j:Nat),j < (d8 a E.length x_2 ++ e9 a x_2 x).length→(b7 d (d8 a E.length x_1) j).fst=(b7 d (d8 a E.length x_2 ++ e9 a x_2 x) j).fst)∧(∀(j:Nat),j < (d8 a E.length x_2 ++ e9 a x_2 x).length→(b7 d (d8 a E.length x_1) j).snd=(b7 d (d8 a E.length x_2 ++ e9 a x_2 x) j).snd)∧True)∧True)∧∀(x_3:Nat),x_3≤E.length∧x_2 < E.length→(decide ((↑x_3:Int) < b)=true→E.length=E.length∧R.length=R.length∧M.length=M.length∧nE E∧nI R∧nR M∧(((0:Int)≤(↑x_1:Int)∧(↑x_1:Int) < b)∧(0:Int)≤(↑x_3:Int)∧(↑x_3:Int) < b)∧(poG E R M (↑x_1:Int) (↑x_3:Int)=true→∀(us_2:List Value),us_1=us_1∧cd=cd∧us_1=us_1∧us_1=us_1∧cd=cd∧(d8 a E.length x_2 ++ e9 a x_2 x_3).length=(d8 a E.length x_2 ++ e9 a x_2 x_3).length∧m=m∧((d8 a E.length x_2 ++ e9 a x_2 x_3).length + m) * (16:Nat)≤(140737488355328:Nat)∧(d8 a E.length x_2 ++ e9 a x_2 x_3).length + m≤(9223372036854775807:Nat)∧us_1=us_1∧cd=cd∧us_2=us_2∧∃(x:Nat),(x≤E.length∧x_2 < E.length)∧(h.ann x_2).mu x < (h.ann x_2).mu
 x_3∧(True∧True∧True∧(↑x_1:Int)=(↑x_1:Int)∧True∧E.length=E.length∧b=b∧(↑x_1:Int)=(↑x_1:Int)∧true=true∧(↑x_1:Int)=(↑x_1:Int)∧True∧E.length=E.length∧b=b∧IntKind.i64.wrap ((↑x_3:Int) + (1:Int))=(↑x:Int)∧True)∧eqA E.length (i6 E)∧eqA R.length (e8 R)∧eqA M.length (i4 M)∧c∧i∧c∧True∧(g∧us=us)∧i∧(b=b∧(d8 a E.length x_2 ++ e9 a x_2 x_3).length + m=(d8 a E.length x_2 ++ e9 a x_2 x).length)∧((d8 a E.length x_2 ++ e9 a x_2 x_3).length + m=(d8 a E.length x_2 ++ e9 a x_2 x).length∧(∀(j:Nat),j < (d8 a E.length x_2 ++ e9 a x_2 x).length→(bif j.blt (d8 a E.length x_2 ++ e9 a x_2 x_3).length then(b7 d (d8 a E.length x_2 ++ e9 a x_2 x_3) j).fst else g8 [(↑x_1:Int)] (j - (d8 a E.length x_2 ++ e9 a x_2 x_3).length))=(b7 d (d8 a E.length x_2 ++ e9 a x_2 x) j).fst)∧(∀(j:Nat),j < (d8 a E.length x_2 ++ e9 a x_2 x).length→(bif j.blt (d8 a E.length x_2 ++ e9 a x_2 x_3).length then(b7 d (d8 a E.length x_2 ++ e9 a x_2 x_3) j).snd else g8 [(↑x_3:Int)] (j - (d8 a E.length x_2 ++ e9 a x_2 x_3).length))=(b7 d (d8 a E.length x_2 ++ e9 a x_2 x) j).snd)∧True)∧(e∧us_1=us_1)∧(us_1=us_1∧cd=cd)∧True)∧(poG E R M (↑x_1:Int) (↑x_3:Int) =!true→∃(x:Nat),(x≤E.length∧x_2 < E.length)∧(h.ann x_2).mu x < (h.ann x_2).mu x_3∧(True∧True∧True∧(↑x_1:Int)=(↑x_1:Int)∧True∧E.length=E.length∧b=b∧(↑x_1:Int)=(↑x_1:Int)∧true=true∧(↑x_1:Int)=(↑x_1:Int)∧True∧E.length=E.length∧b=b∧IntKind.i64.wrap ((↑x_3:Int) + (1:Int))=(↑x:Int)∧True)∧eqA E.length (i6 E)∧eqA R.length (e8 R)∧eqA M.length (i4 M)∧c∧i∧c∧True∧(g∧us=us)∧i∧(b=b∧(d8 a E.length x_2
 ++ e9 a x_2 x_3).length=(d8 a E.length x_2 ++ e9 a x_2 x).length)∧((d8 a E.length x_2 ++ e9 a x_2 x_3).length=(d8 a E.length x_2 ++ e9 a x_2 x).length∧(∀(j:Nat),j < (d8 a E.length x_2 ++ e9 a x_2 x).length→(b7 d (d8 a E.length x_2 ++ e9 a x_2 x_3) j).fst=(b7 d (d8 a E.length x_2 ++ e9 a x_2 x) j).fst)∧(∀(j:Nat),j < (d8 a E.length x_2 ++ e9 a x_2 x).length→(b7 d (d8 a E.length x_2 ++ e9 a x_2 x_3) j).snd=(b7 d (d8 a E.length x_2 ++ e9 a x_2 x) j).snd)∧True)∧(e∧us_1=us_1)∧(us_1=us_1∧cd=cd)∧True))∧(decide ((↑x_3:Int) < b)=false→∃(x_4:Nat),(x_4≤E.length∧True)∧(k.ann x).mu x_4 < (k.ann x).mu x_1∧(True∧True∧True∧True∧E.length=E.length∧b=b∧IntKind.i64.wrap ((↑x_1:Int) + (1:Int))=(↑x_4:Int)∧True)∧eqA E.length (i6 E)∧eqA R.length (e8 R)∧eqA M.length (i4 M)∧c∧i∧c∧True∧(g∧us=us)∧i∧(b=b∧(d8 a E.length x_2 ++ e9 a x_2 x_3).length=(d8 a E.length x_4).length)∧((d8 a E.length x_2 ++ e9 a x_2 x_3).length=(d8 a E.length x_4).length∧(∀(j:Nat),j < (d8 a E.length x_4).length→(b7 d (d8 a E.length x_2 ++ e9 a x_2 x_3) j).fst=(b7 d (d8 a E.length x_4) j).fst)∧(∀(j:Nat),j < (d8 a E.length x_4).length→(b7 d (d8 a E.length x_2 ++ e9 a x_2 x_3) j).snd=(b7 d (d8 a E.length x_4) j).snd)∧True)∧(e∧us_1=us_1)∧(us_1=us_1∧cd=cd)∧True))∧(decide ((↑x_1:Int) < b)=false→us_1=us_1∧us_1=us_1∧cd=cd∧(d8 a E.length x_1).length=(d8 a E.length x_1).length∧mkN (fun(j:Nat)=>((b7 d (d8 a E.length x_1) j).fst,(b7 d (d8 a E.length x_1) j).snd)) (d8 a E.length x_1).length=d8 a E.length E.length∧(d8 a E.length
 E.length).length≤(1099511627776:Nat)∧us=us∧(AV.ps f).len=l.len∧((∀(j:Nat),j < l.len→(b7 d f j).fst=(b7 d (b9 b a) j).fst)∧(∀(j:Nat),j < l.len→(b7 d f j).snd=(b7 d (b9 b a) j).snd)∧True)∧(bif g7 b (d8 a E.length E.length) then b else(0:Int))=b∧(AV.ps f).len=l.len∧True)):=by kernel_rfl
theorem v55 (E:List Ev) (R:List Int) (M:List (List Int)) (h:pgE 64 E R M 0 0):q55D E R M:=by
 rw[d91]
 have h64:(E.length:Int)≤64:=h
 have hlen:=b6z (poG E R M) (n:=E.length) (by omega)
 simp only[eq_self,true_and,and_true,z0o,imp_self,o6,o8,p7,i7,i9,PLoop.of,s8,AV.len,j4,z0u,l4,l5,l6,m8,m9,n5,a65,a44,PLoop.of,p7]
 refine fun cd=>⟨(),⟨0,by simp,rfl,?_⟩,fun a ha=>⟨fun hlt=>⟨a,⟨0,?_⟩,fun b hb=>⟨fun hlb=>⟨⟨by have:=z0e hlt; have:=z0e hlb; omega,by have:=z0e hlt; have:=z0e hlb; omega⟩,fun hf=>?_,fun hf=>?_⟩,fun hlb=>?_⟩⟩,fun hlt=>?_⟩⟩
 ·simp[a2p]
 ·have ha2:a < E.length:=by have:=z0e hlt; omega
  simp[a4b,ha2]
 ·have hb2:b < E.length:=by have:=z0e hlb; omega
  have h1:=hlen a b hb.2 hb.1
  have e:e9 (poG E R M) a (b + 1)=e9 (poG E R M) a b ++ [((a:Int),(b:Int))]:=by rw[a0e,if_pos hf]
  have e2:d8 (poG E R M) E.length a ++ e9 (poG E R M) a (b + 1)=(d8 (poG E R M) E.length a ++ e9 (poG E R M) a b) ++ [((a:Int),(b:Int))]:=by rw[e,z1x]
  refine⟨by omega,by omega,b + 1,⟨by omega,hb.2⟩,by omega,wrS (n:=E.length) hb2 (by omega),?_⟩
  rw[e2]
  have e3:(d8 (poG E R M) E.length a ++ e9 (poG E R M) a b ++ [((a:Int),(b:Int))]).length=(d8 (poG E R M) E.length a ++ e9 (poG E R M) a b).length + 1:=by rw[z1d (bs:=[((a:Int),(b:Int))])]; rfl
  exact⟨e3.symm,e3.symm,ap1 (·.1) _ _,ap1 (·.2) _ _⟩
 ·have hb2:b < E.length:=by have:=z0e hlb; omega
  have e:e9 (poG E R M) a (b + 1)=e9 (poG E R M) a b:=by rw[a0e,if_neg (by rw[hf]; simp),z1n]
  refine⟨b + 1,⟨by omega,hb.2⟩,by omega,wrS (n:=E.length) hb2 (by omega),?_⟩
  rw[e]
  simp
 ·have hb2:b=E.length:=by have:=z0i hlb; omega
  have e:d8 (poG E R M) E.length (a + 1)=d8 (poG E R M) E.length a ++ e9 (poG E R M) a b:=by rw[a1s,hb2]
  refine⟨a + 1,by omega,by omega,wrS (n:=E.length) hb.2 (by omega),?_⟩
  rw[e]
  simp
 ·have ha2:a=E.length:=by have:=z0i hlt; omega
  subst ha2
  obtain⟨n1,n2⟩:=a8i (poG E R M) (n:=E.length) (by omega)
  have h1:=a32 (poG E R M) E.length E.length
  have h3:E.length * E.length≤64 * 64:=z3f (by omega) (by omega)
  rw[n1]
  simp only[z0f,n2]
  simp only[z0o,and_self,and_true,true_and]
  omega
def q61D (E:List Ev) (R:List Int) (M:List (List Int)):Prop:=s4 (({ calls:=[d20,c5v (no 10 ++ [some (.ps (d8 (rfG E R M) E.length E.length))]),d5c 117 pcR rfG (nmG E R M)],inl:=[d1u 9,allI E.length (rfG E R M) 9 10] }:Kit)).tab Tryz.f61 [grV E R M] (grM E R M) ((b0u E.length (b9 E.length (rfG E R M))).post EL)
theorem d95 (E:List Ev) (R:List Int) (M:List (List Int)):q61D E R M=(
 let a:=rfG E R M
 let b:=(↑E.length:Int)
 let c:=E.length=E.length∧R.length=R.length∧M.length=M.length
 let d:=((0:Int),(0:Int))
 let e:=b=b∧(True∧True)∧True∧True∧True∧True∧True∧b=b∧(b=b∧True)∧(True∧True)∧True∧True∧True∧True∧True∧True∧True∧True∧True
 let f:=bif g7 b (d8 a E.length E.length) then b9 b (f7 (d8 a E.length E.length)) else []
 let g:=c∧True∧True∧True∧E.length=E.length∧b=b∧c∧True∧(True∧True)∧True
 let h:=a44 E.length a (15:Nat) (9:Nat) (10:Nat)
 let i:=(0:Int)=(0:Int)∧True
 let k:=PLoop.of (a65 E.length a (9:Nat) (9:Nat) (10:Nat))
 let l:=AV.ps (b9 b a)
 let m:=(1:Nat)
 ∀(us us_1:List Value) (cd:LupCd) (x:Option Addr × Nat),∃(x:PUnit),(∃(x:Nat),(x≤E.length∧True)∧((0:Int)=(↑x:Int)∧True)∧(b=b∧(0:Nat)=(d8 a E.length x).length)∧((0:Nat)=(d8 a E.length x).length∧(d8 a E.length x).length=(0:Nat)∧(d8 a E.length x).length=(0:Nat)∧True)∧True)∧∀(x_1:Nat),x_1≤E.length∧True→(decide ((↑x_1:Int) < b)=true→∃(x_2:Nat),(∃(x:Nat),(x≤E.length∧x_2 < E.length)∧((0:Int)=(↑x:Int)∧True)∧(b=b∧(d8 a E.length x_1).length=(d8 a E.length x_2 ++ e9 a x_2 x).length)∧((d8 a E.length x_1).length=(d8 a E.length x_2 ++ e9 a x_2 x).length∧(∀(j:Nat),j < (d8 a E.length x_2 ++ e9 a x_2 x).length→(b7 d (d8 a E.length x_1) j).fst=(b7 d (d8 a E.length x_2 ++ e9 a x_2 x) j).fst)∧(∀(j:Nat),j < (d8 a E.length x_2 ++ e9 a x_2 x).length→(b7 d (d8 a E.length x_1) j).snd=(b7 d (d8 a E.length x_2 ++ e9 a x_2 x) j).snd)∧True)∧True)∧∀(x_3:Nat),x_3≤E.length∧x_2 < E.length→(decide ((↑x_3:Int) < b)=true→E.length=E.length∧R.length=R.length∧M.length=M.length∧nE E∧nI R∧nR M∧((((0:Int)≤(↑x_1:Int)∧(↑x_1:Int) < b)∧(0:Int)≤(↑x_3:Int)∧(↑x_3:Int) < b)∧R.length=E.length)∧(rfG E R M (↑x_1:Int) (↑x_3:Int)=true→∀(us_2:List Value),us_1=us_1∧cd=cd∧us_1=us_1∧us_1=us_1∧cd=cd∧(d8 a E.length x_2 ++ e9 a x_2 x_3).length=(d8 a E.length x_2 ++ e9 a x_2 x_3).length∧m=m∧((d8 a E.length x_2 ++ e9 a x_2 x_3).length + m) * (16:Nat)≤(140737488355328:Nat)∧(d8 a E.length x_2 ++ e9 a x_2 x_3).length + m≤(9223372036854775807:Nat)∧us_1=us_1∧cd=cd∧us_2=us_2∧∃(x:Nat),(x≤E.length∧x_2 < E.length)∧(h.ann x_2).mu x < (h.ann x_2).mu
 x_3∧(True∧True∧True∧(↑x_1:Int)=(↑x_1:Int)∧True∧E.length=E.length∧b=b∧(↑x_1:Int)=(↑x_1:Int)∧true=true∧(↑x_1:Int)=(↑x_1:Int)∧True∧E.length=E.length∧b=b∧IntKind.i64.wrap ((↑x_3:Int) + (1:Int))=(↑x:Int)∧True)∧eqA E.length (i6 E)∧eqA R.length (e8 R)∧eqA M.length (i4 M)∧c∧i∧c∧True∧(g∧us=us)∧i∧(b=b∧(d8 a E.length x_2 ++ e9 a x_2 x_3).length + m=(d8 a E.length x_2 ++ e9 a x_2 x).length)∧((d8 a E.length x_2 ++ e9 a x_2 x_3).length + m=(d8 a E.length x_2 ++ e9 a x_2 x).length∧(∀(j:Nat),j < (d8 a E.length x_2 ++ e9 a x_2 x).length→(bif j.blt (d8 a E.length x_2 ++ e9 a x_2 x_3).length then(b7 d (d8 a E.length x_2 ++ e9 a x_2 x_3) j).fst else g8 [(↑x_1:Int)] (j - (d8 a E.length x_2 ++ e9 a x_2 x_3).length))=(b7 d (d8 a E.length x_2 ++ e9 a x_2 x) j).fst)∧(∀(j:Nat),j < (d8 a E.length x_2 ++ e9 a x_2 x).length→(bif j.blt (d8 a E.length x_2 ++ e9 a x_2 x_3).length then(b7 d (d8 a E.length x_2 ++ e9 a x_2 x_3) j).snd else g8 [(↑x_3:Int)] (j - (d8 a E.length x_2 ++ e9 a x_2 x_3).length))=(b7 d (d8 a E.length x_2 ++ e9 a x_2 x) j).snd)∧True)∧(e∧us_1=us_1)∧(us_1=us_1∧cd=cd)∧True)∧(rfG E R M (↑x_1:Int) (↑x_3:Int) =!true→∃(x:Nat),(x≤E.length∧x_2 < E.length)∧(h.ann x_2).mu x < (h.ann x_2).mu x_3∧(True∧True∧True∧(↑x_1:Int)=(↑x_1:Int)∧True∧E.length=E.length∧b=b∧(↑x_1:Int)=(↑x_1:Int)∧true=true∧(↑x_1:Int)=(↑x_1:Int)∧True∧E.length=E.length∧b=b∧IntKind.i64.wrap ((↑x_3:Int) + (1:Int))=(↑x:Int)∧True)∧eqA E.length (i6 E)∧eqA R.length (e8 R)∧eqA M.length (i4 M)∧c∧i∧c∧True∧(g∧us=us)∧i∧(b=b∧(d8 a E.length x_2
 ++ e9 a x_2 x_3).length=(d8 a E.length x_2 ++ e9 a x_2 x).length)∧((d8 a E.length x_2 ++ e9 a x_2 x_3).length=(d8 a E.length x_2 ++ e9 a x_2 x).length∧(∀(j:Nat),j < (d8 a E.length x_2 ++ e9 a x_2 x).length→(b7 d (d8 a E.length x_2 ++ e9 a x_2 x_3) j).fst=(b7 d (d8 a E.length x_2 ++ e9 a x_2 x) j).fst)∧(∀(j:Nat),j < (d8 a E.length x_2 ++ e9 a x_2 x).length→(b7 d (d8 a E.length x_2 ++ e9 a x_2 x_3) j).snd=(b7 d (d8 a E.length x_2 ++ e9 a x_2 x) j).snd)∧True)∧(e∧us_1=us_1)∧(us_1=us_1∧cd=cd)∧True))∧(decide ((↑x_3:Int) < b)=false→∃(x_4:Nat),(x_4≤E.length∧True)∧(k.ann x).mu x_4 < (k.ann x).mu x_1∧(True∧True∧True∧True∧E.length=E.length∧b=b∧IntKind.i64.wrap ((↑x_1:Int) + (1:Int))=(↑x_4:Int)∧True)∧eqA E.length (i6 E)∧eqA R.length (e8 R)∧eqA M.length (i4 M)∧c∧i∧c∧True∧(g∧us=us)∧i∧(b=b∧(d8 a E.length x_2 ++ e9 a x_2 x_3).length=(d8 a E.length x_4).length)∧((d8 a E.length x_2 ++ e9 a x_2 x_3).length=(d8 a E.length x_4).length∧(∀(j:Nat),j < (d8 a E.length x_4).length→(b7 d (d8 a E.length x_2 ++ e9 a x_2 x_3) j).fst=(b7 d (d8 a E.length x_4) j).fst)∧(∀(j:Nat),j < (d8 a E.length x_4).length→(b7 d (d8 a E.length x_2 ++ e9 a x_2 x_3) j).snd=(b7 d (d8 a E.length x_4) j).snd)∧True)∧(e∧us_1=us_1)∧(us_1=us_1∧cd=cd)∧True))∧(decide ((↑x_1:Int) < b)=false→us_1=us_1∧us_1=us_1∧cd=cd∧(d8 a E.length x_1).length=(d8 a E.length x_1).length∧mkN (fun(j:Nat)=>((b7 d (d8 a E.length x_1) j).fst,(b7 d (d8 a E.length x_1) j).snd)) (d8 a E.length x_1).length=d8 a E.length E.length∧(d8 a E.length
 E.length).length≤(1099511627776:Nat)∧us=us∧(AV.ps f).len=l.len∧((∀(j:Nat),j < l.len→(b7 d f j).fst=(b7 d (b9 b a) j).fst)∧(∀(j:Nat),j < l.len→(b7 d f j).snd=(b7 d (b9 b a) j).snd)∧True)∧(bif g7 b (d8 a E.length E.length) then b else(0:Int))=b∧(AV.ps f).len=l.len∧True)):=by kernel_rfl
theorem v61 (E:List Ev) (R:List Int) (M:List (List Int)) (h:pgR 64 E R M 0 0):q61D E R M:=by
 rw[d95]
 have h64:(E.length:Int)≤64:=h.1
 have hlen:=b6z (rfG E R M) (n:=E.length) (by omega)
 simp only[eq_self,true_and,and_true,z0o,imp_self,o6,o8,p7,i7,i9,PLoop.of,s8,AV.len,j4,z0u,l4,l5,l6,m8,m9,n5,a65,a44,PLoop.of,p7]
 refine fun cd=>⟨(),⟨0,by simp,rfl,?_⟩,fun a ha=>⟨fun hlt=>⟨a,⟨0,?_⟩,fun b hb=>⟨fun hlb=>⟨⟨⟨by have:=z0e hlt; have:=z0e hlb; omega,by have:=z0e hlt; have:=z0e hlb; omega⟩,h.2⟩,fun hf=>?_,fun hf=>?_⟩,fun hlb=>?_⟩⟩,fun hlt=>?_⟩⟩
 ·simp[a2p]
 ·have ha2:a < E.length:=by have:=z0e hlt; omega
  simp[a4b,ha2]
 ·have hb2:b < E.length:=by have:=z0e hlb; omega
  have h1:=hlen a b hb.2 hb.1
  have e:e9 (rfG E R M) a (b + 1)=e9 (rfG E R M) a b ++ [((a:Int),(b:Int))]:=by rw[a0e,if_pos hf]
  have e2:d8 (rfG E R M) E.length a ++ e9 (rfG E R M) a (b + 1)=(d8 (rfG E R M) E.length a ++ e9 (rfG E R M) a b) ++ [((a:Int),(b:Int))]:=by rw[e,z1x]
  refine⟨by omega,by omega,b + 1,⟨by omega,hb.2⟩,by omega,wrS (n:=E.length) hb2 (by omega),?_⟩
  rw[e2]
  have e3:(d8 (rfG E R M) E.length a ++ e9 (rfG E R M) a b ++ [((a:Int),(b:Int))]).length=(d8 (rfG E R M) E.length a ++ e9 (rfG E R M) a b).length + 1:=by rw[z1d (bs:=[((a:Int),(b:Int))])]; rfl
  exact⟨e3.symm,e3.symm,ap1 (·.1) _ _,ap1 (·.2) _ _⟩
 ·have hb2:b < E.length:=by have:=z0e hlb; omega
  have e:e9 (rfG E R M) a (b + 1)=e9 (rfG E R M) a b:=by rw[a0e,if_neg (by rw[hf]; simp),z1n]
  refine⟨b + 1,⟨by omega,hb.2⟩,by omega,wrS (n:=E.length) hb2 (by omega),?_⟩
  rw[e]
  simp
 ·have hb2:b=E.length:=by have:=z0i hlb; omega
  have e:d8 (rfG E R M) E.length (a + 1)=d8 (rfG E R M) E.length a ++ e9 (rfG E R M) a b:=by rw[a1s,hb2]
  refine⟨a + 1,by omega,by omega,wrS (n:=E.length) hb.2 (by omega),?_⟩
  rw[e]
  simp
 ·have ha2:a=E.length:=by have:=z0i hlt; omega
  subst ha2
  obtain⟨n1,n2⟩:=a8i (rfG E R M) (n:=E.length) (by omega)
  have h1:=a32 (rfG E R M) E.length E.length
  have h3:E.length * E.length≤64 * 64:=z3f (by omega) (by omega)
  rw[n1]
  simp only[z0f,n2]
  simp only[z0o,and_self,and_true,true_and]
  omega
theorem n55 (nm:List (Option AV)):CallOk Tryz.prog [] 55 (q6 EL none nm [PG] (b6h pgE poG)):=z4 Tryz.func55 fo55 fun av pre rv h=>by
 unfold b6h at h; split at h <;> cases h
 exact⟨⟨rfl,fun t a e=>by cases e <;> exact z0h _ _⟩,fun hp=>⟨_,v55 _ _ _ (hp _ (.head _)),rfl,(o5 d2b (o5 (c6g _) (o5 (n111 _) v4))),(a3y d1y (a3y c4e v5))⟩⟩
theorem n61 (nm:List (Option AV)):CallOk Tryz.prog [] 61 (q6 EL none nm [PG] (b6h pgR rfG)):=z4 Tryz.func61 fo61 fun av pre rv h=>by
 unfold b6h at h; split at h <;> cases h
 exact⟨⟨rfl,fun t a e=>by cases e <;> exact z0h _ _⟩,fun hp=>⟨_,v61 _ _ _ (hp _ (.head _)),rfl,(o5 d2b (o5 (c6g _) (o5 (n117 _) v4))),(a3y d1y (a3y c4e v5))⟩⟩
def a95 (x:Int):List Int→Int→Int
 | [],_=>-1
 | y :: r,i=>bif y == x then i else a95 x r (i + 1)
def w9 (l:List Int) (x:Int):Int:=a95 x l 0
theorem c6s {x:Int}:∀ {l:List Int} {j:Nat} {i:Int},(∀ q,q < j→b7 0 l q≠x)→j < l.length→b7 0 l j=x→a95 x l i=i + j:=by
 intro l
 induction l with
 | nil=>intro j i _ h; simp at h
 | cons y r ih =>
  intro j i h hj hx
  cases j with
  | zero =>
   simp only[b7] at hx
   simp[a95,hx]
  | succ j =>
   have h0:y≠x:=by have:=h 0 (by omega); simpa [b7] using this
   have e:(y == x)=false:=by simpa using h0
   rw[a95,e,z0l,ih (j:=j) (fun q hq=>by have:=h (q + 1) (by omega); simpa [b7] using this) (by simpa using hj) (by simpa [b7] using hx)]
   omega
theorem c34 {x:Int}:∀ {l:List Int} {i:Int},(∀ q,q < l.length→b7 0 l q≠x)→a95 x l i = -1:=by
 intro l
 induction l with
 | nil=>intro i _; rfl
 | cons y r ih =>
  intro i h
  have h0:y≠x:=by have:=h 0 (by simp); simpa [b7] using this
  have e:(y == x)=false:=by simpa using h0
  rw[a95,e,z0l,ih (fun q hq=>by have:=h (q + 1) (by simpa using hq); simpa [b7] using this)]
theorem a3v {x:Int} {l:List Int} {j:Nat} (h:∀ q,q < j→b7 0 l q≠x) (hj:j < l.length) (hx:b7 0 l j=x):w9 l x=j:=by
 rw[w9,c6s h hj hx]; omega
theorem b78 {x:Int} {l:List Int} (h:∀ q,q < l.length→b7 0 l q≠x):w9 l x = -1:=c34 h
abbrev L40 (n:Nat):Prop:=n≤1099511627776
def d0m:SpG:=fun | [.lf (.is l),.lf (.i x)]=>some ([L40 l.length],.rv (.pl (.i .i64 (w9 l x)))) | _=>none
def c07 (l:List Int) (x:Int) (t:Nat):LAnn:=s8 l.length t (fun j=>∀ q,q < j→b7 0 l q≠x) (fun _=>[]) []
def c5w (n:Nat) (nm:List (Option AV)):Nat × (List MBlk→List SV→Option AR):=(n,q6 EL none nm [.lf .is,.lf .i] d0m)
def a0n (a:Int) (E:List Ev):Nat→Int
 | 0=>0
 | j + 1=>bif (b7 e0 E j).ag == a then a0n a E j + 1 else a0n a E j
theorem b9p (a:Int) (E:List Ev):∀ j,0≤a0n a E j∧a0n a E j≤j:=by
 intro j
 induction j with
 | zero=>simp[a0n]
 | succ j ih=>simp only[a0n]; cases(b7 e0 E j).ag == a <;> simp <;> omega
def c0o (E:List Ev) (k a:Int):Int:=a0n a E k.toNat
def d7p:SpG:=fun | [.lf (.es E),.lf (.i k),.lf (.i a)]=>some ([(0≤k∧k≤E.length)∧L40 E.length],.rv (.pl (.i .i64 (c0o E k a)))) | _=>none
def c61 (E:List Ev) (k a:Int) (t c:Nat):LAnn where
 X:=Nat
 inv:=fun j=>j≤k.toNat
 slots:=fun j=>[(t,.i .i64 (j:Int)),(c,.i .i64 (a0n a E j))]
 mem:=fun _=>[]
 mu:=fun j=>k.toNat - j
 kill:=[]
def kNum (nm:List (Option AV)):Nat × (List MBlk→List SV→Option AR):=(124,q6 EL none nm [.lf .es,.lf .i,.lf .i] d7p)
theorem fo66:s5 Tryz.prog 66:=⟨Tryz.f66,Tryz.func66,by kernel_rfl,by kernel_rfl⟩
def q66D (l:List Int) (x:Int):Prop:=s4 (({ loops:=[(0,.of (c07 l x 5))] }:Kit)).tab Tryz.f66 [.sl 0 l.length,.i .i64 x] [.arr l.length (e8 l)] (m4 (.i .i64 (w9 l x)))
theorem d9a (l:List Int) (x:Int):q66D l x=(
 let a:=(0:Int)
 let b:=(↑l.length:Int)
 let c:=PLoop.of (c07 l x (5:Nat))
 ∃(x_1:PUnit),(∃(x_2:Nat),(x_2≤l.length∧∀(q:Nat),q < x_2→b7 a l q≠x)∧(a=(↑x_2:Int)∧True)∧True)∧∀(x_2:Nat),(x_2≤l.length∧∀(q:Nat),q < x_2→b7 a l q≠x)→(decide ((↑x_2:Int) < b)=true→(a≤(↑x_2:Int)∧(↑x_2:Int) < b)∧x_2 < l.length∧((b7 a l x_2 ==x)=true→(↑x_2:Int)=w9 l x)∧((b7 a l x_2 ==x)=false→∃(x_3:Nat),(x_3≤l.length∧∀(q:Nat),q < x_3→b7 a l q≠x)∧(c.ann x_1).mu x_3 < (c.ann x_1).mu x_2∧(l.length=l.length∧x=x∧IntKind.i64.wrap ((↑x_2:Int) + (1:Int))=(↑x_3:Int)∧True)∧eqA l.length (e8 l)∧True))∧(decide ((↑x_2:Int) < b)=false→(-1:Int)=w9 l x)):=by kernel_rfl
theorem v66 (l:List Int) (x:Int) (h:L40 l.length):q66D l x:=by
 rw[d9a]
 simp only[eq_self,true_and,and_true,z0o,imp_self,o6,o8,p7,i7,i9,PLoop.of,s8,AV.len,j4,z0u,l4,l5,l6,m8,m9,n5,c07]
 refine⟨(),⟨0,⟨by omega,fun q h=>absurd h (z2m _)⟩,rfl⟩,fun j hj=>⟨fun hlt=>?_,fun hlt=>?_⟩⟩
 ·have h1:j < l.length:=by have:=z0e hlt; omega
  refine⟨⟨by omega,by omega⟩,h1,fun he=>?_,fun he=>⟨j + 1,⟨by omega,fun q hq=>?_⟩,by omega,wrS (n:=l.length) h1 h⟩⟩
  ·exact(a3v hj.2 h1 (by simp at he; first | exact he | exact he.symm)).symm
  ·by_cases e:q=j
   ·subst e; simp at he; first | exact he | exact fun h=>he h.symm
   ·exact hj.2 q (by omega)
 ·exact(b78 (fun q hq=>hj.2 q (by have:=z0i hlt; omega))).symm
theorem n66 (nm:List (Option AV)):CallOk Tryz.prog [] 66 (q6 EL none nm [.lf .is,.lf .i] d0m):=z4 Tryz.func66 fo66 fun av pre rv h=>by
 unfold d0m at h; split at h <;> cases h
 exact⟨⟨rfl,fun t a e=>by cases e <;> exact z0h _ _⟩,fun hp=>⟨_,v66 _ _ (hp _ (.head _)),rfl,v4,v5⟩⟩
theorem e0n:s5 Tryz.prog 121:=⟨Tryz.f121,Tryz.func121,by kernel_rfl,by kernel_rfl⟩
def d5n (l:List Int) (x:Int):Prop:=s4 (({ loops:=[(0,.of (c07 l x 8))] }:Kit)).tab Tryz.f121 [.sl 0 l.length,.i .i64 x] [.arr l.length (e8 l)] (m4 (.i .i64 (w9 l x)))
theorem d44 (l:List Int) (x:Int):d5n l x=(
 let a:=(↑l.length:Int)
 let b:=(0:Int)
 let c:=PLoop.of (c07 l x (8:Nat))
 ∃(x_1:PUnit),(∃(x_2:Nat),(x_2≤l.length∧∀(q:Nat),q < x_2→b7 b l q≠x)∧(b=(↑x_2:Int)∧True)∧True)∧∀(x_2:Nat),(x_2≤l.length∧∀(q:Nat),q < x_2→b7 b l q≠x)→(decide ((↑x_2:Int) < a)=true→(b≤(↑x_2:Int)∧(↑x_2:Int) < a)∧x_2 < l.length∧((x ==b7 b l x_2)=true→(↑x_2:Int)=w9 l x)∧((x ==b7 b l x_2)=false→∃(x_3:Nat),(x_3≤l.length∧∀(q:Nat),q < x_3→b7 b l q≠x)∧(c.ann x_1).mu x_3 < (c.ann x_1).mu x_2∧(l.length=l.length∧x=x∧l.length=l.length∧a=a∧IntKind.i64.wrap ((↑x_2:Int) + (1:Int))=(↑x_3:Int)∧True)∧eqA l.length (e8 l)∧True))∧(decide ((↑x_2:Int) < a)=false→(-1:Int)=w9 l x)):=by kernel_rfl
theorem v121 (l:List Int) (x:Int) (h:L40 l.length):d5n l x:=by
 rw[d44]
 simp only[eq_self,true_and,and_true,z0o,imp_self,o6,o8,p7,i7,i9,PLoop.of,s8,AV.len,j4,z0u,l4,l5,l6,m8,m9,n5,c07]
 refine⟨(),⟨0,⟨by omega,fun q h=>absurd h (z2m _)⟩,rfl⟩,fun j hj=>⟨fun hlt=>?_,fun hlt=>?_⟩⟩
 ·have h1:j < l.length:=by have:=z0e hlt; omega
  refine⟨⟨by omega,by omega⟩,h1,fun he=>?_,fun he=>⟨j + 1,⟨by omega,fun q hq=>?_⟩,by omega,wrS (n:=l.length) h1 h⟩⟩
  ·exact(a3v hj.2 h1 (by simp at he; first | exact he | exact he.symm)).symm
  ·by_cases e:q=j
   ·subst e; simp at he; first | exact he | exact fun h=>he h.symm
   ·exact hj.2 q (by omega)
 ·exact(b78 (fun q hq=>hj.2 q (by have:=z0i hlt; omega))).symm
theorem n121 (nm:List (Option AV)):CallOk Tryz.prog [] 121 (q6 EL none nm [.lf .is,.lf .i] d0m):=z4 Tryz.func121 e0n fun av pre rv h=>by
 unfold d0m at h; split at h <;> cases h
 exact⟨⟨rfl,fun t a e=>by cases e <;> exact z0h _ _⟩,fun hp=>⟨_,v121 _ _ (hp _ (.head _)),rfl,v4,v5⟩⟩
theorem e0p:s5 Tryz.prog 124:=⟨Tryz.f124,Tryz.func124,by kernel_rfl,by kernel_rfl⟩
def d5p (E:List Ev) (k a:Int):Prop:=s4 (({ loops:=[(0,.of (c61 E k a 8 7))] }:Kit)).tab Tryz.f124 [.sl 0 E.length,.i .i64 k,.i .i64 a] [.arr E.length (i6 E)] (m4 (.i .i64 (c0o E k a)))
theorem d46 (E:List Ev) (k a:Int):d5p E k a=(
 let b:=PLoop.of (c61 E k a (8:Nat) (7:Nat))
 let c:=(0:Int)
 ∃(x:PUnit),(∃(x:Nat),x≤k.toNat∧(c=(↑x:Int)∧c=a0n a E x∧True)∧True)∧∀(x_1:Nat),x_1≤k.toNat→(decide ((↑x_1:Int) < k)=true→(c≤(↑x_1:Int)∧(↑x_1:Int) < (↑E.length:Int))∧x_1 < E.length∧(((b7 e0 E x_1).ag ==a)=true→∃(x_2:Nat),x_2≤k.toNat∧(b.ann x).mu x_2 < (b.ann x).mu x_1∧(E.length=E.length∧k=k∧a=a∧c=c∧IntKind.i64.wrap (a0n a E x_1 + (1:Int))=a0n a E x_2∧IntKind.i64.wrap ((↑x_1:Int) + (1:Int))=(↑x_2:Int)∧True)∧eqA E.length (i6 E)∧True)∧(((b7 e0 E x_1).ag ==a)=false→∃(x_2:Nat),x_2≤k.toNat∧(b.ann x).mu x_2 < (b.ann x).mu x_1∧(E.length=E.length∧k=k∧a=a∧c=c∧a0n a E x_1=a0n a E x_2∧IntKind.i64.wrap ((↑x_1:Int) + (1:Int))=(↑x_2:Int)∧True)∧eqA E.length (i6 E)∧True))∧(decide ((↑x_1:Int) < k)=false→a0n a E x_1=c0o E k a)):=by kernel_rfl
theorem v124 (E:List Ev) (k a:Int) (h:(0≤k∧k≤E.length)∧L40 E.length):d5p E k a:=by
 rw[d46]
 simp only[eq_self,true_and,and_true,z0o,imp_self,o6,o8,p7,i7,i9,PLoop.of,s8,AV.len,j4,z0u,l4,l5,l6,m8,m9,n5,c61]
 obtain⟨⟨h0,h1⟩,h2⟩:=h
 refine⟨(),⟨0,by omega,rfl,rfl⟩,fun j hj=>⟨fun hlt=>?_,fun hlt=>?_⟩⟩
 ·have h3:j < k.toNat:=by have:=z0e hlt; omega
  have h4:j < E.length:=by omega
  have h5:=b9p a E j
  have h6:=wrS (n:=E.length) h4 h2
  have h7:E.length≤1099511627776:=h2
  refine⟨⟨by omega,by omega⟩,h4,fun he=>⟨j + 1,by omega,by omega,?_,h6⟩,fun he=>⟨j + 1,by omega,by omega,?_,h6⟩⟩
  ·simp only[a0n,he,z0f]
   exact a4x (by omega) (by omega)
  ·simp only[a0n,he,z0l]
 ·have h3:j=k.toNat:=by have:=z0i hlt; omega
  rw[h3]; rfl
theorem n124 (nm:List (Option AV)):CallOk Tryz.prog [] 124 (q6 EL none nm [.lf .es,.lf .i,.lf .i] d7p):=z4 Tryz.func124 e0p fun av pre rv h=>by
 unfold d7p at h; split at h <;> cases h
 exact⟨⟨rfl,fun t a e=>by cases e <;> exact z0h _ _⟩,fun hp=>⟨_,v124 _ _ _ (hp _ (.head _)),rfl,v4,v5⟩⟩
end Go.Proofs.YtaeeaniofljmnaaGreatDoor
