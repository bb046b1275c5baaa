/-
  A part of the proof (N15).
-/
import Derived.Test.YtaeeaniofljmnaaGreatDoorN8
import Derived.Test.YtaeeaniofljmnaaGreatDoorYx19
namespace Go.Proofs.YtaeeaniofljmnaaGreatDoor
set_option linter.unusedSimpArgs false
set_option linter.unusedVariables false
open Go Go.Proofs.YtaeeaniofljmnaaGreatDoor.Sx
set_option maxRecDepth 100000
def a24 (ps:List (Nat × (Option Addr × Nat))):Tab:=⟨a6h,[],[],[],[],ps,[],[],[],none,false⟩
theorem b0q (ps:List (Nat × (Option Addr × Nat))):TabOk Tryz.prog (a24 ps):=⟨mixed,tys,ints,fun _ _ hf=>(by cases hf),fun _ _ hf=>(by cases hf),fun _ _ hf=>(by cases hf),fun _ hf=>by cases hf⟩
def c32 (g k:Nat) (cx cy:List SV):SV→List MBlk→Prop:=fun sv m=>sv=.fn g [.ptr (w8 k).length 0,.ptr (w8 k ++ [MBlk.cells cx]).length 0]∧m=w8 k ++ [MBlk.cells cx] ++ [MBlk.cells cy]
theorem d6k:o8 Tryz.prog 105:=⟨Tryz.f105,Tryz.func105,by kernel_rfl,by kernel_rfl⟩
theorem d14 (cs:List SV) (f:Nat) (ys:List SV) (k:Nat) (ps:List (Nat × (Option Addr × Nat))):n9 (a24 ps) Tryz.f105 [.agg cs,.fn f ys] (w8 k) (c32 144 k cs [.fn f ys])=(
 let a:=w8 k ++ [MBlk.cells cs]
 SV.fn 144 [.ptr (w8 k).length 0,.ptr a.length 0]=SV.fn 144 [.ptr (w8 k).length 0,.ptr a.length 0]∧w8 k ++ [MBlk.cells cs] ++ [MBlk.cells [.fn f ys]]=w8 k ++ [MBlk.cells cs] ++ [MBlk.cells [.fn f ys]]):=by kernel_rfl
theorem b105 (cs:List SV) (f:Nat) (ys:List SV):c1y a24 Tryz.f105 144 (.agg cs) (.fn f ys) cs [.fn f ys]:=fun k ps=>by
 have h:n9 (a24 ps) Tryz.f105 [.agg cs,.fn f ys] (w8 k) (c32 144 k cs [.fn f ys]):=by rw[d14]; exact⟨rfl,rfl⟩
 exact h
def b69:List MBlk→List SV→Option AR
 | m,[.agg cs,.fn f ys]=>bif ltL cs m.length && ltL ys m.length then some ⟨[],.fn 144 [.ptr m.length 0,.ptr (m.length + 1) 0],[.cells cs,.cells [.fn f ys]]⟩ else none
 | _,_=>none
theorem c9s {G:List (Nat × Nat)}:CallOk Tryz.prog G 105 b69:=by
 refine c5l (g:=144) a24 b0q (fun ps=>⟨rfl,rfl⟩) Tryz.func105 d6k fun m vs ar h=>?_
 unfold b69 at h
 split at h
 ·rename_i cs f ys
  cases hc:(ltL cs m.length && ltL ys m.length)
  ·rw[hc] at h; cases h
  ·rw[hc] at h
   cases h
   simp only[z0d] at hc
   exact⟨_,_,_,_,rfl,(by simp only[ltL,SV.ltB,z1x,z0d]; exact hc),.agg _,.fn _ _,rfl,b105 cs f ys⟩
 ·cases h
theorem fo57:o8 Tryz.prog 57:=⟨Tryz.f57,Tryz.func57,by kernel_rfl,by kernel_rfl⟩
theorem d5l (cs:List SV) (f:Nat) (ys:List SV) (k:Nat) (ps:List (Nat × (Option Addr × Nat))):n9 (a24 ps) Tryz.f57 [.agg cs,.fn f ys] (w8 k) (c32 112 k cs [.fn f ys])=(
 let a:=w8 k ++ [MBlk.cells cs]
 SV.fn 112 [.ptr (w8 k).length 0,.ptr a.length 0]=SV.fn 112 [.ptr (w8 k).length 0,.ptr a.length 0]∧w8 k ++ [MBlk.cells cs] ++ [MBlk.cells [.fn f ys]]=w8 k ++ [MBlk.cells cs] ++ [MBlk.cells [.fn f ys]]):=by kernel_rfl
theorem b57 (cs:List SV) (f:Nat) (ys:List SV):c1y a24 Tryz.f57 112 (.agg cs) (.fn f ys) cs [.fn f ys]:=fun k ps=>by
 have h:n9 (a24 ps) Tryz.f57 [.agg cs,.fn f ys] (w8 k) (c32 112 k cs [.fn f ys]):=by rw[d5l]; exact⟨rfl,rfl⟩
 exact h
def c06:List MBlk→List SV→Option AR
 | m,[.agg cs,.fn f ys]=>bif ltL cs m.length && ltL ys m.length then some ⟨[],.fn 112 [.ptr m.length 0,.ptr (m.length + 1) 0],[.cells cs,.cells [.fn f ys]]⟩ else none
 | _,_=>none
theorem n57 {G:List (Nat × Nat)}:CallOk Tryz.prog G 57 c06:=by
 refine c5l (g:=112) a24 b0q (fun ps=>⟨rfl,rfl⟩) Tryz.func57 fo57 fun m vs ar h=>?_
 unfold c06 at h
 split at h
 ·rename_i cs f ys
  cases hc:(ltL cs m.length && ltL ys m.length)
  ·rw[hc] at h; cases h
  ·rw[hc] at h
   cases h
   simp only[z0d] at hc
   exact⟨_,_,_,_,rfl,(by simp only[ltL,SV.ltB,z1x,z0d]; exact hc),.agg _,.fn _ _,rfl,b57 cs f ys⟩
 ·cases h
theorem d6m:o8 Tryz.prog 108:=⟨Tryz.f108,Tryz.func108,by kernel_rfl,by kernel_rfl⟩
theorem d15 (cs:List SV) (n:Int) (k:Nat) (ps:List (Nat × (Option Addr × Nat))):n9 (a24 ps) Tryz.f108 [.agg cs,.i .i64 n] (w8 k) (c32 146 k cs [.i .i64 n])=(
 let a:=w8 k ++ [MBlk.cells cs]
 SV.fn 146 [.ptr (w8 k).length 0,.ptr a.length 0]=SV.fn 146 [.ptr (w8 k).length 0,.ptr a.length 0]∧w8 k ++ [MBlk.cells cs] ++ [MBlk.cells [.i .i64 n]]=w8 k ++ [MBlk.cells cs] ++ [MBlk.cells [.i .i64 n]]):=by kernel_rfl
theorem b108 (cs:List SV) (n:Int):c1y a24 Tryz.f108 146 (.agg cs) (.i .i64 n) cs [.i .i64 n]:=fun k ps=>by
 have h:n9 (a24 ps) Tryz.f108 [.agg cs,.i .i64 n] (w8 k) (c32 146 k cs [.i .i64 n]):=by rw[d15]; exact⟨rfl,rfl⟩
 exact h
def b6a:List MBlk→List SV→Option AR
 | m,[.agg cs,.i .i64 n]=>bif ltL cs m.length then some ⟨[],.fn 146 [.ptr m.length 0,.ptr (m.length + 1) 0],[.cells cs,.cells [.i .i64 n]]⟩ else none
 | _,_=>none
theorem n108 {G:List (Nat × Nat)}:CallOk Tryz.prog G 108 b6a:=by
 refine c5l (g:=146) a24 b0q (fun ps=>⟨rfl,rfl⟩) Tryz.func108 d6m fun m vs ar h=>?_
 unfold b6a at h
 split at h
 ·rename_i cs n
  cases hc:(ltL cs m.length)
  ·rw[hc] at h; cases h
  ·rw[hc] at h
   cases h
   skip
   exact⟨_,_,_,_,rfl,(by simp only[ltL,SV.ltB,z1x,z0d]; exact hc),.agg _,.i _ _,rfl,b108 cs n⟩
 ·cases h
def grV (E:List Ev) (R:List Int) (M:List (List Int)):SV:=.agg [.sl 0 E.length,.sl 1 R.length,.sl 2 M.length]
def grM (E:List Ev) (R:List Int) (M:List (List Int)):List MBlk:=[.arr E.length (g9 E),.arr R.length (j6 R),.arr M.length (l4 M)]
def evA (E:List Ev) (i:Int):Ev:=b8 e0 E i.toNat
def inA (R:List Int) (i:Int):Int:=b8 0 R i.toNat
def poB (a b:Ev) (i k:Int):Bool:=(a.ag == b.ag && decide (i < k)) || (a.k == 16 && (a.ob == b.ag || (b.k == 17 && a.ob == b.ob))) || (b.k == 17 && b.ob == a.ag)
def poF (E:List Ev):Pf:=fun i k=>poB (evA E i) (evA E k) i k
def rfF (R:List Int):Pf:=fun i k=>inA R k == i
def a6y (n:Nat) (f:Pf) (t c e:Nat):LAnn:=s5 n t (fun _=>True) (fun a=>[(c,.cells [.i .i64 (n:Int),.sl e (d5 f n a).length]),b8x e (d5 f n a)]) [e]
def a51 (n:Nat) (f:Pf) (t c e:Nat):PLoop:=⟨Nat,fun a=>s5 n t (fun _=>a < n) (fun b=>[(c,.cells [.i .i64 (n:Int),.sl e (d5 f n a ++ f8 f a b).length]),b8x e (d5 f n a ++ f8 f a b)]) [e]⟩
abbrev SpG:=List PV→Option (List Prop × QV)
def b1l (N:Int) (l:List Pq):QV:=.rv (.sl (b3p N) (.ps l))
def PG:PK:=.ag [.es,.is,.rs]
noncomputable def c9f (c:Nat):Nat × Inl:=(56,{ fn:=Tryz.f56,takes:=[(2,fun _ _=>[.fresh c 1 67 2])] })
noncomputable def allI (n:Nat) (f:Pf) (c e:Nat):Nat × Inl:=(144,{ fn:=Tryz.f144,loops:=[(0,.of (a6y n f 9 c e)),(2,a51 n f 15 c e)] })
def no (n:Nat):List (Option AV):=a2f n none
def c9k:Nat × (List MBlk→List SV→Option AR):=(105,b69)
def c61 (E:List Ev) (i k:Int):Prop:=(0≤i∧i < E.length)∧(0≤k∧k < E.length)
abbrev GF:=List Ev→List Int→List (List Int)→Pf
abbrev GP:=List Ev→List Int→List (List Int)→Int→Int→Prop
def b9e (pc:GP) (fn:GF):SpG:=fun
 | [.lf (.i i),.lf (.i k),.bx [.es E,.is R,.rs M]]=>some ([pc E R M i k],.rv (.pl (.b (fn E R M i k))))
 | _=>none
def pcE:GP:=fun E _ _ i k=>c61 E i k
def pcR:GP:=fun E R _ i k=>c61 E i k∧R.length=E.length
def nmG (E:List Ev) (R:List Int) (M:List (List Int)):List (Option AV):=[some (.es E),some (.is R),some (.rs M)]
def PH:List PK:=[.lf .i,.lf .i,.bx [.es,.is,.rs]]
def boxG (E:List Ev) (R:List Int) (M:List (List Int)):List MBlk:=[.old [.sl 1 E.length,.sl 2 R.length,.sl 3 M.length],.arr E.length (g9 E),.arr R.length (j6 R),.arr M.length (l4 M)]
def d2e (n:Nat) (pc:GP) (fn:GF) (nm:List (Option AV)):Nat × (List MBlk→List SV→Option AR):=(n,n8 EL none nm PH (b9e pc fn))
theorem a4q {i:Int} {n:Nat} (h:0≤i∧i < n):i.toNat < n:=by omega
def poG:GF:=fun E _ _=>poF E
def rfG:GF:=fun _ R _=>rfF R
theorem d6p:o8 Tryz.prog 111:=⟨Tryz.f111,Tryz.func111,by kernel_rfl,by kernel_rfl⟩
theorem d6t:o8 Tryz.prog 117:=⟨Tryz.f117,Tryz.func117,by kernel_rfl,by kernel_rfl⟩
def d2j (i k:Int) (E:List Ev) (R:List Int) (M:List (List Int)):Prop:=n9 (({}:Kit)).tab Tryz.f111 [.i .i64 i,.i .i64 k,.ptr 0 0] (boxG E R M) (l8 (.b (poG E R M i k)))
theorem d18 (i k:Int) (E:List Ev) (R:List Int) (M:List (List Int)):d2j i k E R M=(
 let a:=(b8 e0 E i.toNat).k ==(16:Int) && ((b8 e0 E i.toNat).ob ==(b8 e0 E k.toNat).ag || (b8 e0 E k.toNat).k ==(17:Int) && (b8 e0 E i.toNat).ob ==(b8 e0 E k.toNat).ob)
 let b:=(b8 e0 E i.toNat).ag ==(b8 e0 E k.toNat).ag && decide (i < k)
 ((0:Int)≤i∧i < (↑E.length:Int))∧i.toNat < E.length∧((0:Int)≤k∧k < (↑E.length:Int))∧k.toNat < E.length∧(b=true→true=poG E R M i k)∧(b=false→(a=true→true=poG E R M i k)∧(a=false→((b8 e0 E k.toNat).k ==(17:Int) && (b8 e0 E k.toNat).ob ==(b8 e0 E i.toNat).ag)=poG E R M i k))):=by kernel_rfl
theorem v111 (i k:Int) (E:List Ev) (R:List Int) (M:List (List Int)) (h:pcE E R M i k):d2j i k E R M:=by
 rw[d18]
 refine⟨h.1,a4q h.1,h.2,a4q h.2,?_⟩
 simp only[poG,poF,poB,evA]
 grind
def d2m (i k:Int) (E:List Ev) (R:List Int) (M:List (List Int)):Prop:=n9 (({}:Kit)).tab Tryz.f117 [.i .i64 i,.i .i64 k,.ptr 0 0] (boxG E R M) (l8 (.b (rfG E R M i k)))
theorem d1b (i k:Int) (E:List Ev) (R:List Int) (M:List (List Int)):d2m i k E R M=(((0:Int)≤k∧k < (↑R.length:Int))∧k.toNat < R.length∧(b8 (0:Int) R k.toNat == i)=rfG E R M i k):=by kernel_rfl
theorem v117 (i k:Int) (E:List Ev) (R:List Int) (M:List (List Int)) (h:pcR E R M i k):d2m i k E R M:=by
 rw[d1b]
 have h2:=h.1.2
 rw[← h.2] at h2
 first | exact⟨h2,a4q h2,rfl⟩
theorem n111 (nm:List (Option AV)):CallOk Tryz.prog [] 111 (n8 EL none nm PH (b9e pcE poG)):=y5 Tryz.func111 d6p fun av pre rv h=>by
 unfold b9e at h; split at h <;> cases h
 exact⟨⟨rfl,fun t a e=>by cases e <;> exact z0k _ _⟩,fun hp=>⟨_,v111 _ _ _ _ _ (hp _ (.head _)),rfl,v4,v5⟩⟩
theorem n117 (nm:List (Option AV)):CallOk Tryz.prog [] 117 (n8 EL none nm PH (b9e pcR rfG)):=y5 Tryz.func117 d6t fun av pre rv h=>by
 unfold b9e at h; split at h <;> cases h
 exact⟨⟨rfl,fun t a e=>by cases e <;> exact z0k _ _⟩,fun hp=>⟨_,v117 _ _ _ _ _ (hp _ (.head _)),rfl,v4,v5⟩⟩
theorem b8g (f:Pf) {n:Nat} (hN:n≤64):∀ a b,a < n→b≤n→(d5 f n a ++ f8 f a b).length≤8192:=fun a b ha hb=>by
 have h1:=a2z f n a
 have h2:=a9l f a b
 have h3:a * n≤64 * 64:=z2x (by omega) hN
 rw[z1b]; omega
theorem b0e (f:Pf) (n:Nat):b9 (n:Int) f=d5 f n n:=by simp[b9]
theorem a7k (f:Pf) {n:Nat} (hN:n≤64):d9 n (d5 f n n)=true∧b9 n (e9 (d5 f n n))=b9 n f:=by
 have e:d5 f n n=b9 n f:=(b0e f n).symm
 rw[e]
 refine⟨y7.2 ⟨by omega,by omega,fun p hp=>?_⟩,b8r fun a b ha hb=>?_⟩
 ·have:=b0d.1 (a5n.2 (show(p.1,p.2)∈b9 n f from hp))
  exact⟨this.1,this.2.1,this.2.2.1,this.2.2.2.1⟩
 ·rw[z3i,b0d]
  exact⟨fun h=>h.2.2.2.2,fun h=>⟨by omega,ha,by omega,hb,h⟩⟩
def b4t (pc:Int→GP) (fn:GF):SpG:=fun
 | [.ag [.es E,.is R,.rs M]]=>some ([pc 64 E R M 0 0],b1l E.length (b9 E.length (fn E R M)))
 | _=>none
def pgE (m:Int):GP:=fun E _ _ _ _=>(E.length:Int)≤m
def pgR (m:Int):GP:=fun E R _ _ _=>(E.length:Int)≤m∧R.length=E.length
theorem fo55:o8 Tryz.prog 55:=⟨Tryz.f55,Tryz.func55,by kernel_rfl,by kernel_rfl⟩
theorem fo61:o8 Tryz.prog 61:=⟨Tryz.f61,Tryz.func61,by kernel_rfl,by kernel_rfl⟩
theorem fo56:o8 Tryz.prog 56:=⟨Tryz.f56,Tryz.func56,by kernel_rfl,by kernel_rfl⟩
theorem c9i {l:List (Nat × PLoop)} {t:List (Nat × (List Slot→List MBlk→List Gh))} {s:List Nat}:a1q (56,⟨Tryz.f56,l,t,s⟩):=⟨Tryz.func56,fo56⟩
theorem d7b:o8 Tryz.prog 144:=⟨Tryz.f144,Tryz.func144,by kernel_rfl,by kernel_rfl⟩
theorem c28 {l:List (Nat × PLoop)} {t:List (Nat × (List Slot→List MBlk→List Gh))} {s:List Nat}:a1q (144,⟨Tryz.f144,l,t,s⟩):=⟨Tryz.func144,d7b⟩
def q55D (E:List Ev) (R:List Int) (M:List (List Int)):Prop:=n9 (({ calls:=[c9k,c3o (no 10 ++ [some (.ps (d5 (poG E R M) E.length E.length))]),d2e 111 pcE poG (nmG E R M)],inl:=[c9f 9,allI E.length (poG E R M) 9 10] }:Kit)).tab Tryz.f55 [grV E R M] (grM E R M) ((b1l E.length (b9 E.length (poG E R M))).post EL)
theorem d5j (E:List Ev) (R:List Int) (M:List (List Int)):q55D E R M=(
 let a:=poG E R M
 let b:=(↑E.length:Int)
 let c:=E.length=E.length∧R.length=R.length∧M.length=M.length
 let d:=((0:Int),(0:Int))
 let e:=b=b∧(True∧True)∧True∧True∧True∧True∧True∧b=b∧(b=b∧True)∧(True∧True)∧True∧True∧True∧True∧True∧True∧True∧True∧True
 let f:=bif d9 b (d5 a E.length E.length) then b9 b (e9 (d5 a E.length E.length)) else []
 let g:=c∧True∧True∧True∧E.length=E.length∧b=b∧c∧True∧(True∧True)∧True
 let h:=a51 E.length a (15:Nat) (9:Nat) (10:Nat)
 let i:=(0:Int)=(0:Int)∧True
 let k:=PLoop.of (a6y E.length a (9:Nat) (9:Nat) (10:Nat))
 let l:=AV.ps (b9 b a)
 let m:=(1:Nat)
 ∀(us us_1:List Value) (cd:LupCd) (x:Option Addr × Nat),∃(x:PUnit),(∃(x:Nat),(x≤E.length∧True)∧((0:Int)=(↑x:Int)∧True)∧(b=b∧(0:Nat)=(d5 a E.length x).length)∧((0:Nat)=(d5 a E.length x).length∧(d5 a E.length x).length=(0:Nat)∧(d5 a E.length x).length=(0:Nat)∧True)∧True)∧∀(x_1:Nat),x_1≤E.length∧True→(decide ((↑x_1:Int) < b)=true→∃(x_2:Nat),(∃(x:Nat),(x≤E.length∧x_2 < E.length)∧((0:Int)=(↑x:Int)∧True)∧(b=b∧(d5 a E.length x_1).length=(d5 a E.length x_2 ++ f8 a x_2 x).length)∧((d5 a E.length x_1).length=(d5 a E.length x_2 ++ f8 a x_2 x).length∧(∀(j:Nat),j < (d5 a E.length x_2 ++ f8 a x_2 x).length→(b8 d (d5 a E.length x_1) j).fst=(b8 d (d5 a E.length x_2 ++ f8 a x_2 x) j).fst)∧(∀(j:Nat),j < (d5 a E.length x_2 ++ f8 a x_2 x).length→(b8 d (d5 a E.length x_1) j).snd=(b8 d (d5 a E.length x_2 ++ f8 a x_2 x) j).snd)∧True)∧True)∧∀(x_3:Nat),x_3≤E.length∧x_2 < E.length→(decide ((↑x_3:Int) < b)=true→E.length=E.length∧R.length=R.length∧M.length=M.length∧nE E∧nI R∧nR M∧(((0:Int)≤(↑x_1:Int)∧(↑x_1:Int) < b)∧(0:Int)≤(↑x_3:Int)∧(↑x_3:Int) < b)∧(poG E R M (↑x_1:Int) (↑x_3:Int)=true→∀(us_2:List Value),us_1=us_1∧cd=cd∧us_1=us_1∧us_1=us_1∧cd=cd∧(d5 a E.length x_2 ++ f8 a x_2 x_3).length=(d5 a E.length x_2 ++ f8 a x_2 x_3).length∧m=m∧((d5 a E.length x_2 ++ f8 a x_2 x_3).length + m) * (16:Nat)≤(140737488355328:Nat)∧(d5 a E.length x_2 ++ f8 a x_2 x_3).length + m≤(9223372036854775807:Nat)∧us_1=us_1∧cd=cd∧us_2=us_2∧∃(x:Nat),(x≤E.length∧x_2 < E.length)∧(h.ann x_2).mu x < (h.ann x_2).mu
 x_3∧(True∧True∧True∧(↑x_1:Int)=(↑x_1:Int)∧True∧E.length=E.length∧b=b∧(↑x_1:Int)=(↑x_1:Int)∧true=true∧(↑x_1:Int)=(↑x_1:Int)∧True∧E.length=E.length∧b=b∧IntKind.i64.wrap ((↑x_3:Int) + (1:Int))=(↑x:Int)∧True)∧eqA E.length (g9 E)∧eqA R.length (j6 R)∧eqA M.length (l4 M)∧c∧i∧c∧True∧(g∧us=us)∧i∧(b=b∧(d5 a E.length x_2 ++ f8 a x_2 x_3).length + m=(d5 a E.length x_2 ++ f8 a x_2 x).length)∧((d5 a E.length x_2 ++ f8 a x_2 x_3).length + m=(d5 a E.length x_2 ++ f8 a x_2 x).length∧(∀(j:Nat),j < (d5 a E.length x_2 ++ f8 a x_2 x).length→(bif j.blt (d5 a E.length x_2 ++ f8 a x_2 x_3).length then(b8 d (d5 a E.length x_2 ++ f8 a x_2 x_3) j).fst else e8 [(↑x_1:Int)] (j - (d5 a E.length x_2 ++ f8 a x_2 x_3).length))=(b8 d (d5 a E.length x_2 ++ f8 a x_2 x) j).fst)∧(∀(j:Nat),j < (d5 a E.length x_2 ++ f8 a x_2 x).length→(bif j.blt (d5 a E.length x_2 ++ f8 a x_2 x_3).length then(b8 d (d5 a E.length x_2 ++ f8 a x_2 x_3) j).snd else e8 [(↑x_3:Int)] (j - (d5 a E.length x_2 ++ f8 a x_2 x_3).length))=(b8 d (d5 a E.length x_2 ++ f8 a x_2 x) j).snd)∧True)∧(e∧us_1=us_1)∧(us_1=us_1∧cd=cd)∧True)∧(poG E R M (↑x_1:Int) (↑x_3:Int) =!true→∃(x:Nat),(x≤E.length∧x_2 < E.length)∧(h.ann x_2).mu x < (h.ann x_2).mu x_3∧(True∧True∧True∧(↑x_1:Int)=(↑x_1:Int)∧True∧E.length=E.length∧b=b∧(↑x_1:Int)=(↑x_1:Int)∧true=true∧(↑x_1:Int)=(↑x_1:Int)∧True∧E.length=E.length∧b=b∧IntKind.i64.wrap ((↑x_3:Int) + (1:Int))=(↑x:Int)∧True)∧eqA E.length (g9 E)∧eqA R.length (j6 R)∧eqA M.length (l4 M)∧c∧i∧c∧True∧(g∧us=us)∧i∧(b=b∧(d5 a E.length x_2
 ++ f8 a x_2 x_3).length=(d5 a E.length x_2 ++ f8 a x_2 x).length)∧((d5 a E.length x_2 ++ f8 a x_2 x_3).length=(d5 a E.length x_2 ++ f8 a x_2 x).length∧(∀(j:Nat),j < (d5 a E.length x_2 ++ f8 a x_2 x).length→(b8 d (d5 a E.length x_2 ++ f8 a x_2 x_3) j).fst=(b8 d (d5 a E.length x_2 ++ f8 a x_2 x) j).fst)∧(∀(j:Nat),j < (d5 a E.length x_2 ++ f8 a x_2 x).length→(b8 d (d5 a E.length x_2 ++ f8 a x_2 x_3) j).snd=(b8 d (d5 a E.length x_2 ++ f8 a x_2 x) j).snd)∧True)∧(e∧us_1=us_1)∧(us_1=us_1∧cd=cd)∧True))∧(decide ((↑x_3:Int) < b)=false→∃(x_4:Nat),(x_4≤E.length∧True)∧(k.ann x).mu x_4 < (k.ann x).mu x_1∧(True∧True∧True∧True∧E.length=E.length∧b=b∧IntKind.i64.wrap ((↑x_1:Int) + (1:Int))=(↑x_4:Int)∧True)∧eqA E.length (g9 E)∧eqA R.length (j6 R)∧eqA M.length (l4 M)∧c∧i∧c∧True∧(g∧us=us)∧i∧(b=b∧(d5 a E.length x_2 ++ f8 a x_2 x_3).length=(d5 a E.length x_4).length)∧((d5 a E.length x_2 ++ f8 a x_2 x_3).length=(d5 a E.length x_4).length∧(∀(j:Nat),j < (d5 a E.length x_4).length→(b8 d (d5 a E.length x_2 ++ f8 a x_2 x_3) j).fst=(b8 d (d5 a E.length x_4) j).fst)∧(∀(j:Nat),j < (d5 a E.length x_4).length→(b8 d (d5 a E.length x_2 ++ f8 a x_2 x_3) j).snd=(b8 d (d5 a E.length x_4) j).snd)∧True)∧(e∧us_1=us_1)∧(us_1=us_1∧cd=cd)∧True))∧(decide ((↑x_1:Int) < b)=false→us_1=us_1∧us_1=us_1∧cd=cd∧(d5 a E.length x_1).length=(d5 a E.length x_1).length∧mkN (fun(j:Nat)=>((b8 d (d5 a E.length x_1) j).fst,(b8 d (d5 a E.length x_1) j).snd)) (d5 a E.length x_1).length=d5 a E.length E.length∧(d5 a E.length
 E.length).length≤(1099511627776:Nat)∧us=us∧(AV.ps f).len=l.len∧((∀(j:Nat),j < l.len→(b8 d f j).fst=(b8 d (b9 b a) j).fst)∧(∀(j:Nat),j < l.len→(b8 d f j).snd=(b8 d (b9 b a) j).snd)∧True)∧(bif d9 b (d5 a E.length E.length) then b else(0:Int))=b∧(AV.ps f).len=l.len∧True)):=by kernel_rfl
theorem v55 (E:List Ev) (R:List Int) (M:List (List Int)) (h:pgE 64 E R M 0 0):q55D E R M:=by
 rw[d5j]
 have h64:(E.length:Int)≤64:=h
 have hlen:=b8g (poG E R M) (n:=E.length) (by omega)
 simp only[eq_self,true_and,and_true,z0p,imp_self,m5,n5,o0,g8,i9,PLoop.of,s5,AV.len,j5,z0v,j8,l5,l6,m6,m7,m8,a6y,a51,PLoop.of,o0]
 refine fun cd=>⟨(),⟨0,by simp,rfl,?_⟩,fun a ha=>⟨fun hlt=>⟨a,⟨0,?_⟩,fun b hb=>⟨fun hlb=>⟨⟨by have:=z0e hlt; have:=z0e hlb; omega,by have:=z0e hlt; have:=z0e hlb; omega⟩,fun hf=>?_,fun hf=>?_⟩,fun hlb=>?_⟩⟩,fun hlt=>?_⟩⟩
 ·simp[a2n]
 ·have ha2:a < E.length:=by have:=z0e hlt; omega
  simp[a48,ha2]
 ·have hb2:b < E.length:=by have:=z0e hlb; omega
  have h1:=hlen a b hb.2 hb.1
  have e:f8 (poG E R M) a (b + 1)=f8 (poG E R M) a b ++ [((a:Int),(b:Int))]:=by rw[a0b,if_pos hf]
  have e2:d5 (poG E R M) E.length a ++ f8 (poG E R M) a (b + 1)=(d5 (poG E R M) E.length a ++ f8 (poG E R M) a b) ++ [((a:Int),(b:Int))]:=by rw[e,z1y]
  refine⟨by omega,by omega,b + 1,⟨by omega,hb.2⟩,by omega,wrS (n:=E.length) hb2 (by omega),?_⟩
  rw[e2]
  have e3:(d5 (poG E R M) E.length a ++ f8 (poG E R M) a b ++ [((a:Int),(b:Int))]).length=(d5 (poG E R M) E.length a ++ f8 (poG E R M) a b).length + 1:=by rw[z1b (bs:=[((a:Int),(b:Int))])]; rfl
  exact⟨e3.symm,e3.symm,ap1 (·.1) _ _,ap1 (·.2) _ _⟩
 ·have hb2:b < E.length:=by have:=z0e hlb; omega
  have e:f8 (poG E R M) a (b + 1)=f8 (poG E R M) a b:=by rw[a0b,if_neg (by rw[hf]; simp),z1f]
  refine⟨b + 1,⟨by omega,hb.2⟩,by omega,wrS (n:=E.length) hb2 (by omega),?_⟩
  rw[e]
  simp
 ·have hb2:b=E.length:=by have:=z0l hlb; omega
  have e:d5 (poG E R M) E.length (a + 1)=d5 (poG E R M) E.length a ++ f8 (poG E R M) a b:=by rw[a1k,hb2]
  refine⟨a + 1,by omega,by omega,wrS (n:=E.length) hb.2 (by omega),?_⟩
  rw[e]
  simp
 ·have ha2:a=E.length:=by have:=z0l hlt; omega
  subst ha2
  obtain⟨n1,n2⟩:=a7k (poG E R M) (n:=E.length) (by omega)
  have h1:=a2z (poG E R M) E.length E.length
  have h3:E.length * E.length≤64 * 64:=z2x (by omega) (by omega)
  rw[n1]
  simp only[z0f,n2]
  simp only[z0p,and_self,and_true,true_and]
  omega
def q61D (E:List Ev) (R:List Int) (M:List (List Int)):Prop:=n9 (({ calls:=[c9k,c3o (no 10 ++ [some (.ps (d5 (rfG E R M) E.length E.length))]),d2e 117 pcR rfG (nmG E R M)],inl:=[c9f 9,allI E.length (rfG E R M) 9 10] }:Kit)).tab Tryz.f61 [grV E R M] (grM E R M) ((b1l E.length (b9 E.length (rfG E R M))).post EL)
theorem d5n (E:List Ev) (R:List Int) (M:List (List Int)):q61D E R M=(
 let a:=rfG E R M
 let b:=(↑E.length:Int)
 let c:=E.length=E.length∧R.length=R.length∧M.length=M.length
 let d:=((0:Int),(0:Int))
 let e:=b=b∧(True∧True)∧True∧True∧True∧True∧True∧b=b∧(b=b∧True)∧(True∧True)∧True∧True∧True∧True∧True∧True∧True∧True∧True
 let f:=bif d9 b (d5 a E.length E.length) then b9 b (e9 (d5 a E.length E.length)) else []
 let g:=c∧True∧True∧True∧E.length=E.length∧b=b∧c∧True∧(True∧True)∧True
 let h:=a51 E.length a (15:Nat) (9:Nat) (10:Nat)
 let i:=(0:Int)=(0:Int)∧True
 let k:=PLoop.of (a6y E.length a (9:Nat) (9:Nat) (10:Nat))
 let l:=AV.ps (b9 b a)
 let m:=(1:Nat)
 ∀(us us_1:List Value) (cd:LupCd) (x:Option Addr × Nat),∃(x:PUnit),(∃(x:Nat),(x≤E.length∧True)∧((0:Int)=(↑x:Int)∧True)∧(b=b∧(0:Nat)=(d5 a E.length x).length)∧((0:Nat)=(d5 a E.length x).length∧(d5 a E.length x).length=(0:Nat)∧(d5 a E.length x).length=(0:Nat)∧True)∧True)∧∀(x_1:Nat),x_1≤E.length∧True→(decide ((↑x_1:Int) < b)=true→∃(x_2:Nat),(∃(x:Nat),(x≤E.length∧x_2 < E.length)∧((0:Int)=(↑x:Int)∧True)∧(b=b∧(d5 a E.length x_1).length=(d5 a E.length x_2 ++ f8 a x_2 x).length)∧((d5 a E.length x_1).length=(d5 a E.length x_2 ++ f8 a x_2 x).length∧(∀(j:Nat),j < (d5 a E.length x_2 ++ f8 a x_2 x).length→(b8 d (d5 a E.length x_1) j).fst=(b8 d (d5 a E.length x_2 ++ f8 a x_2 x) j).fst)∧(∀(j:Nat),j < (d5 a E.length x_2 ++ f8 a x_2 x).length→(b8 d (d5 a E.length x_1) j).snd=(b8 d (d5 a E.length x_2 ++ f8 a x_2 x) j).snd)∧True)∧True)∧∀(x_3:Nat),x_3≤E.length∧x_2 < E.length→(decide ((↑x_3:Int) < b)=true→E.length=E.length∧R.length=R.length∧M.length=M.length∧nE E∧nI R∧nR M∧((((0:Int)≤(↑x_1:Int)∧(↑x_1:Int) < b)∧(0:Int)≤(↑x_3:Int)∧(↑x_3:Int) < b)∧R.length=E.length)∧(rfG E R M (↑x_1:Int) (↑x_3:Int)=true→∀(us_2:List Value),us_1=us_1∧cd=cd∧us_1=us_1∧us_1=us_1∧cd=cd∧(d5 a E.length x_2 ++ f8 a x_2 x_3).length=(d5 a E.length x_2 ++ f8 a x_2 x_3).length∧m=m∧((d5 a E.length x_2 ++ f8 a x_2 x_3).length + m) * (16:Nat)≤(140737488355328:Nat)∧(d5 a E.length x_2 ++ f8 a x_2 x_3).length + m≤(9223372036854775807:Nat)∧us_1=us_1∧cd=cd∧us_2=us_2∧∃(x:Nat),(x≤E.length∧x_2 < E.length)∧(h.ann x_2).mu x < (h.ann x_2).mu
 x_3∧(True∧True∧True∧(↑x_1:Int)=(↑x_1:Int)∧True∧E.length=E.length∧b=b∧(↑x_1:Int)=(↑x_1:Int)∧true=true∧(↑x_1:Int)=(↑x_1:Int)∧True∧E.length=E.length∧b=b∧IntKind.i64.wrap ((↑x_3:Int) + (1:Int))=(↑x:Int)∧True)∧eqA E.length (g9 E)∧eqA R.length (j6 R)∧eqA M.length (l4 M)∧c∧i∧c∧True∧(g∧us=us)∧i∧(b=b∧(d5 a E.length x_2 ++ f8 a x_2 x_3).length + m=(d5 a E.length x_2 ++ f8 a x_2 x).length)∧((d5 a E.length x_2 ++ f8 a x_2 x_3).length + m=(d5 a E.length x_2 ++ f8 a x_2 x).length∧(∀(j:Nat),j < (d5 a E.length x_2 ++ f8 a x_2 x).length→(bif j.blt (d5 a E.length x_2 ++ f8 a x_2 x_3).length then(b8 d (d5 a E.length x_2 ++ f8 a x_2 x_3) j).fst else e8 [(↑x_1:Int)] (j - (d5 a E.length x_2 ++ f8 a x_2 x_3).length))=(b8 d (d5 a E.length x_2 ++ f8 a x_2 x) j).fst)∧(∀(j:Nat),j < (d5 a E.length x_2 ++ f8 a x_2 x).length→(bif j.blt (d5 a E.length x_2 ++ f8 a x_2 x_3).length then(b8 d (d5 a E.length x_2 ++ f8 a x_2 x_3) j).snd else e8 [(↑x_3:Int)] (j - (d5 a E.length x_2 ++ f8 a x_2 x_3).length))=(b8 d (d5 a E.length x_2 ++ f8 a x_2 x) j).snd)∧True)∧(e∧us_1=us_1)∧(us_1=us_1∧cd=cd)∧True)∧(rfG E R M (↑x_1:Int) (↑x_3:Int) =!true→∃(x:Nat),(x≤E.length∧x_2 < E.length)∧(h.ann x_2).mu x < (h.ann x_2).mu x_3∧(True∧True∧True∧(↑x_1:Int)=(↑x_1:Int)∧True∧E.length=E.length∧b=b∧(↑x_1:Int)=(↑x_1:Int)∧true=true∧(↑x_1:Int)=(↑x_1:Int)∧True∧E.length=E.length∧b=b∧IntKind.i64.wrap ((↑x_3:Int) + (1:Int))=(↑x:Int)∧True)∧eqA E.length (g9 E)∧eqA R.length (j6 R)∧eqA M.length (l4 M)∧c∧i∧c∧True∧(g∧us=us)∧i∧(b=b∧(d5 a E.length x_2
 ++ f8 a x_2 x_3).length=(d5 a E.length x_2 ++ f8 a x_2 x).length)∧((d5 a E.length x_2 ++ f8 a x_2 x_3).length=(d5 a E.length x_2 ++ f8 a x_2 x).length∧(∀(j:Nat),j < (d5 a E.length x_2 ++ f8 a x_2 x).length→(b8 d (d5 a E.length x_2 ++ f8 a x_2 x_3) j).fst=(b8 d (d5 a E.length x_2 ++ f8 a x_2 x) j).fst)∧(∀(j:Nat),j < (d5 a E.length x_2 ++ f8 a x_2 x).length→(b8 d (d5 a E.length x_2 ++ f8 a x_2 x_3) j).snd=(b8 d (d5 a E.length x_2 ++ f8 a x_2 x) j).snd)∧True)∧(e∧us_1=us_1)∧(us_1=us_1∧cd=cd)∧True))∧(decide ((↑x_3:Int) < b)=false→∃(x_4:Nat),(x_4≤E.length∧True)∧(k.ann x).mu x_4 < (k.ann x).mu x_1∧(True∧True∧True∧True∧E.length=E.length∧b=b∧IntKind.i64.wrap ((↑x_1:Int) + (1:Int))=(↑x_4:Int)∧True)∧eqA E.length (g9 E)∧eqA R.length (j6 R)∧eqA M.length (l4 M)∧c∧i∧c∧True∧(g∧us=us)∧i∧(b=b∧(d5 a E.length x_2 ++ f8 a x_2 x_3).length=(d5 a E.length x_4).length)∧((d5 a E.length x_2 ++ f8 a x_2 x_3).length=(d5 a E.length x_4).length∧(∀(j:Nat),j < (d5 a E.length x_4).length→(b8 d (d5 a E.length x_2 ++ f8 a x_2 x_3) j).fst=(b8 d (d5 a E.length x_4) j).fst)∧(∀(j:Nat),j < (d5 a E.length x_4).length→(b8 d (d5 a E.length x_2 ++ f8 a x_2 x_3) j).snd=(b8 d (d5 a E.length x_4) j).snd)∧True)∧(e∧us_1=us_1)∧(us_1=us_1∧cd=cd)∧True))∧(decide ((↑x_1:Int) < b)=false→us_1=us_1∧us_1=us_1∧cd=cd∧(d5 a E.length x_1).length=(d5 a E.length x_1).length∧mkN (fun(j:Nat)=>((b8 d (d5 a E.length x_1) j).fst,(b8 d (d5 a E.length x_1) j).snd)) (d5 a E.length x_1).length=d5 a E.length E.length∧(d5 a E.length
 E.length).length≤(1099511627776:Nat)∧us=us∧(AV.ps f).len=l.len∧((∀(j:Nat),j < l.len→(b8 d f j).fst=(b8 d (b9 b a) j).fst)∧(∀(j:Nat),j < l.len→(b8 d f j).snd=(b8 d (b9 b a) j).snd)∧True)∧(bif d9 b (d5 a E.length E.length) then b else(0:Int))=b∧(AV.ps f).len=l.len∧True)):=by kernel_rfl
theorem v61 (E:List Ev) (R:List Int) (M:List (List Int)) (h:pgR 64 E R M 0 0):q61D E R M:=by
 rw[d5n]
 have h64:(E.length:Int)≤64:=h.1
 have hlen:=b8g (rfG E R M) (n:=E.length) (by omega)
 simp only[eq_self,true_and,and_true,z0p,imp_self,m5,n5,o0,g8,i9,PLoop.of,s5,AV.len,j5,z0v,j8,l5,l6,m6,m7,m8,a6y,a51,PLoop.of,o0]
 refine fun cd=>⟨(),⟨0,by simp,rfl,?_⟩,fun a ha=>⟨fun hlt=>⟨a,⟨0,?_⟩,fun b hb=>⟨fun hlb=>⟨⟨⟨by have:=z0e hlt; have:=z0e hlb; omega,by have:=z0e hlt; have:=z0e hlb; omega⟩,h.2⟩,fun hf=>?_,fun hf=>?_⟩,fun hlb=>?_⟩⟩,fun hlt=>?_⟩⟩
 ·simp[a2n]
 ·have ha2:a < E.length:=by have:=z0e hlt; omega
  simp[a48,ha2]
 ·have hb2:b < E.length:=by have:=z0e hlb; omega
  have h1:=hlen a b hb.2 hb.1
  have e:f8 (rfG E R M) a (b + 1)=f8 (rfG E R M) a b ++ [((a:Int),(b:Int))]:=by rw[a0b,if_pos hf]
  have e2:d5 (rfG E R M) E.length a ++ f8 (rfG E R M) a (b + 1)=(d5 (rfG E R M) E.length a ++ f8 (rfG E R M) a b) ++ [((a:Int),(b:Int))]:=by rw[e,z1y]
  refine⟨by omega,by omega,b + 1,⟨by omega,hb.2⟩,by omega,wrS (n:=E.length) hb2 (by omega),?_⟩
  rw[e2]
  have e3:(d5 (rfG E R M) E.length a ++ f8 (rfG E R M) a b ++ [((a:Int),(b:Int))]).length=(d5 (rfG E R M) E.length a ++ f8 (rfG E R M) a b).length + 1:=by rw[z1b (bs:=[((a:Int),(b:Int))])]; rfl
  exact⟨e3.symm,e3.symm,ap1 (·.1) _ _,ap1 (·.2) _ _⟩
 ·have hb2:b < E.length:=by have:=z0e hlb; omega
  have e:f8 (rfG E R M) a (b + 1)=f8 (rfG E R M) a b:=by rw[a0b,if_neg (by rw[hf]; simp),z1f]
  refine⟨b + 1,⟨by omega,hb.2⟩,by omega,wrS (n:=E.length) hb2 (by omega),?_⟩
  rw[e]
  simp
 ·have hb2:b=E.length:=by have:=z0l hlb; omega
  have e:d5 (rfG E R M) E.length (a + 1)=d5 (rfG E R M) E.length a ++ f8 (rfG E R M) a b:=by rw[a1k,hb2]
  refine⟨a + 1,by omega,by omega,wrS (n:=E.length) hb.2 (by omega),?_⟩
  rw[e]
  simp
 ·have ha2:a=E.length:=by have:=z0l hlt; omega
  subst ha2
  obtain⟨n1,n2⟩:=a7k (rfG E R M) (n:=E.length) (by omega)
  have h1:=a2z (rfG E R M) E.length E.length
  have h3:E.length * E.length≤64 * 64:=z2x (by omega) (by omega)
  rw[n1]
  simp only[z0f,n2]
  simp only[z0p,and_self,and_true,true_and]
  omega
theorem n55 (nm:List (Option AV)):CallOk Tryz.prog [] 55 (n8 EL none nm [PG] (b4t pgE poG)):=y5 Tryz.func55 fo55 fun av pre rv h=>by
 unfold b4t at h; split at h <;> cases h
 exact⟨⟨rfl,fun t a e=>by cases e <;> exact z0k _ _⟩,fun hp=>⟨_,v55 _ _ _ (hp _ (.head _)),rfl,(m9 c9s (m9 (c48 _) (m9 (n111 _) v4))),(a3q c9i (a3q c28 v5))⟩⟩
theorem n61 (nm:List (Option AV)):CallOk Tryz.prog [] 61 (n8 EL none nm [PG] (b4t pgR rfG)):=y5 Tryz.func61 fo61 fun av pre rv h=>by
 unfold b4t at h; split at h <;> cases h
 exact⟨⟨rfl,fun t a e=>by cases e <;> exact z0k _ _⟩,fun hp=>⟨_,v61 _ _ _ (hp _ (.head _)),rfl,(m9 c9s (m9 (c48 _) (m9 (n117 _) v4))),(a3q c9i (a3q c28 v5))⟩⟩
def a81 (x:Int):List Int→Int→Int
 | [],_=>-1
 | y :: r,i=>bif y == x then i else a81 x r (i + 1)
def a75 (l:List Int) (x:Int):Int:=a81 x l 0
theorem c4k {x:Int}:∀ {l:List Int} {j:Nat} {i:Int},(∀ q,q < j→b8 0 l q≠x)→j < l.length→b8 0 l j=x→a81 x l i=i + j:=by
 intro l
 induction l with
 | nil=>intro j i _ h; simp at h
 | cons y r ih =>
  intro j i h hj hx
  cases j with
  | zero =>
   simp only[b8] at hx
   simp[a81,hx]
  | succ j =>
   have h0:y≠x:=by have:=h 0 (by omega); simpa [b8] using this
   have e:(y == x)=false:=by simpa using h0
   rw[a81,e,z0m,ih (j:=j) (fun q hq=>by have:=h (q + 1) (by omega); simpa [b8] using this) (by simpa using hj) (by simpa [b8] using hx)]
   omega
theorem c17 {x:Int}:∀ {l:List Int} {i:Int},(∀ q,q < l.length→b8 0 l q≠x)→a81 x l i = -1:=by
 intro l
 induction l with
 | nil=>intro i _; rfl
 | cons y r ih =>
  intro i h
  have h0:y≠x:=by have:=h 0 (by simp); simpa [b8] using this
  have e:(y == x)=false:=by simpa using h0
  rw[a81,e,z0m,ih (fun q hq=>by have:=h (q + 1) (by simpa using hq); simpa [b8] using this)]
theorem b92 {x:Int} {l:List Int} {j:Nat} (h:∀ q,q < j→b8 0 l q≠x) (hj:j < l.length) (hx:b8 0 l j=x):a75 l x=j:=by
 rw[a75,c4k h hj hx]; omega
theorem b5n {x:Int} {l:List Int} (h:∀ q,q < l.length→b8 0 l q≠x):a75 l x = -1:=c17 h
abbrev L40 (n:Nat):Prop:=n≤1099511627776
def c85:SpG:=fun | [.lf (.is l),.lf (.i x)]=>some ([L40 l.length],.rv (.pl (.i .i64 (a75 l x)))) | _=>none
def b8d (l:List Int) (x:Int) (t:Nat):LAnn:=s5 l.length t (fun j=>∀ q,q < j→b8 0 l q≠x) (fun _=>[]) []
def kPos (n:Nat) (nm:List (Option AV)):Nat × (List MBlk→List SV→Option AR):=(n,n8 EL none nm [.lf .is,.lf .i] c85)
def a1f (a:Int) (E:List Ev):Nat→Int
 | 0=>0
 | j + 1=>bif (b8 e0 E j).ag == a then a1f a E j + 1 else a1f a E j
theorem b7w (a:Int) (E:List Ev):∀ j,0≤a1f a E j∧a1f a E j≤j:=by
 intro j
 induction j with
 | zero=>simp[a1f]
 | succ j ih=>simp only[a1f]; cases(b8 e0 E j).ag == a <;> simp <;> omega
def c0w (E:List Ev) (k a:Int):Int:=a1f a E k.toNat
def d4d:SpG:=fun | [.lf (.es E),.lf (.i k),.lf (.i a)]=>some ([(0≤k∧k≤E.length)∧L40 E.length],.rv (.pl (.i .i64 (c0w E k a)))) | _=>none
def c3s (E:List Ev) (k a:Int) (t c:Nat):LAnn where
 X:=Nat
 inv:=fun j=>j≤k.toNat
 slots:=fun j=>[(t,.i .i64 (j:Int)),(c,.i .i64 (a1f a E j))]
 mem:=fun _=>[]
 mu:=fun j=>k.toNat - j
 kill:=[]
def kNum (nm:List (Option AV)):Nat × (List MBlk→List SV→Option AR):=(124,n8 EL none nm [.lf .es,.lf .i,.lf .i] d4d)
theorem fo66:o8 Tryz.prog 66:=⟨Tryz.f66,Tryz.func66,by kernel_rfl,by kernel_rfl⟩
def q66D (l:List Int) (x:Int):Prop:=n9 (({ loops:=[(0,.of (b8d l x 5))] }:Kit)).tab Tryz.f66 [.sl 0 l.length,.i .i64 x] [.arr l.length (j6 l)] (l8 (.i .i64 (a75 l x)))
theorem d5s (l:List Int) (x:Int):q66D l x=(
 let a:=(0:Int)
 let b:=(↑l.length:Int)
 let c:=PLoop.of (b8d l x (5:Nat))
 ∃(x_1:PUnit),(∃(x_2:Nat),(x_2≤l.length∧∀(q:Nat),q < x_2→b8 a l q≠x)∧(a=(↑x_2:Int)∧True)∧True)∧∀(x_2:Nat),(x_2≤l.length∧∀(q:Nat),q < x_2→b8 a l q≠x)→(decide ((↑x_2:Int) < b)=true→(a≤(↑x_2:Int)∧(↑x_2:Int) < b)∧x_2 < l.length∧((b8 a l x_2 ==x)=true→(↑x_2:Int)=a75 l x)∧((b8 a l x_2 ==x)=false→∃(x_3:Nat),(x_3≤l.length∧∀(q:Nat),q < x_3→b8 a l q≠x)∧(c.ann x_1).mu x_3 < (c.ann x_1).mu x_2∧(l.length=l.length∧x=x∧IntKind.i64.wrap ((↑x_2:Int) + (1:Int))=(↑x_3:Int)∧True)∧eqA l.length (j6 l)∧True))∧(decide ((↑x_2:Int) < b)=false→(-1:Int)=a75 l x)):=by kernel_rfl
theorem v66 (l:List Int) (x:Int) (h:L40 l.length):q66D l x:=by
 rw[d5s]
 simp only[eq_self,true_and,and_true,z0p,imp_self,m5,n5,o0,g8,i9,PLoop.of,s5,AV.len,j5,z0v,j8,l5,l6,m6,m7,m8,b8d]
 refine⟨(),⟨0,⟨by omega,fun q h=>absurd h (z1l _)⟩,rfl⟩,fun j hj=>⟨fun hlt=>?_,fun hlt=>?_⟩⟩
 ·have h1:j < l.length:=by have:=z0e hlt; omega
  refine⟨⟨by omega,by omega⟩,h1,fun he=>?_,fun he=>⟨j + 1,⟨by omega,fun q hq=>?_⟩,by omega,wrS (n:=l.length) h1 h⟩⟩
  ·exact(b92 hj.2 h1 (by simp at he; first | exact he | exact he.symm)).symm
  ·by_cases e:q=j
   ·subst e; simp at he; first | exact he | exact fun h=>he h.symm
   ·exact hj.2 q (by omega)
 ·exact(b5n (fun q hq=>hj.2 q (by have:=z0l hlt; omega))).symm
theorem n66 (nm:List (Option AV)):CallOk Tryz.prog [] 66 (n8 EL none nm [.lf .is,.lf .i] c85):=y5 Tryz.func66 fo66 fun av pre rv h=>by
 unfold c85 at h; split at h <;> cases h
 exact⟨⟨rfl,fun t a e=>by cases e <;> exact z0k _ _⟩,fun hp=>⟨_,v66 _ _ (hp _ (.head _)),rfl,v4,v5⟩⟩
theorem d6x:o8 Tryz.prog 121:=⟨Tryz.f121,Tryz.func121,by kernel_rfl,by kernel_rfl⟩
def d2n (l:List Int) (x:Int):Prop:=n9 (({ loops:=[(0,.of (b8d l x 8))] }:Kit)).tab Tryz.f121 [.sl 0 l.length,.i .i64 x] [.arr l.length (j6 l)] (l8 (.i .i64 (a75 l x)))
theorem d1e (l:List Int) (x:Int):d2n l x=(
 let a:=(↑l.length:Int)
 let b:=(0:Int)
 let c:=PLoop.of (b8d l x (8:Nat))
 ∃(x_1:PUnit),(∃(x_2:Nat),(x_2≤l.length∧∀(q:Nat),q < x_2→b8 b l q≠x)∧(b=(↑x_2:Int)∧True)∧True)∧∀(x_2:Nat),(x_2≤l.length∧∀(q:Nat),q < x_2→b8 b l q≠x)→(decide ((↑x_2:Int) < a)=true→(b≤(↑x_2:Int)∧(↑x_2:Int) < a)∧x_2 < l.length∧((x ==b8 b l x_2)=true→(↑x_2:Int)=a75 l x)∧((x ==b8 b l x_2)=false→∃(x_3:Nat),(x_3≤l.length∧∀(q:Nat),q < x_3→b8 b l q≠x)∧(c.ann x_1).mu x_3 < (c.ann x_1).mu x_2∧(l.length=l.length∧x=x∧l.length=l.length∧a=a∧IntKind.i64.wrap ((↑x_2:Int) + (1:Int))=(↑x_3:Int)∧True)∧eqA l.length (j6 l)∧True))∧(decide ((↑x_2:Int) < a)=false→(-1:Int)=a75 l x)):=by kernel_rfl
theorem v121 (l:List Int) (x:Int) (h:L40 l.length):d2n l x:=by
 rw[d1e]
 simp only[eq_self,true_and,and_true,z0p,imp_self,m5,n5,o0,g8,i9,PLoop.of,s5,AV.len,j5,z0v,j8,l5,l6,m6,m7,m8,b8d]
 refine⟨(),⟨0,⟨by omega,fun q h=>absurd h (z1l _)⟩,rfl⟩,fun j hj=>⟨fun hlt=>?_,fun hlt=>?_⟩⟩
 ·have h1:j < l.length:=by have:=z0e hlt; omega
  refine⟨⟨by omega,by omega⟩,h1,fun he=>?_,fun he=>⟨j + 1,⟨by omega,fun q hq=>?_⟩,by omega,wrS (n:=l.length) h1 h⟩⟩
  ·exact(b92 hj.2 h1 (by simp at he; first | exact he | exact he.symm)).symm
  ·by_cases e:q=j
   ·subst e; simp at he; first | exact he | exact fun h=>he h.symm
   ·exact hj.2 q (by omega)
 ·exact(b5n (fun q hq=>hj.2 q (by have:=z0l hlt; omega))).symm
theorem n121 (nm:List (Option AV)):CallOk Tryz.prog [] 121 (n8 EL none nm [.lf .is,.lf .i] c85):=y5 Tryz.func121 d6x fun av pre rv h=>by
 unfold c85 at h; split at h <;> cases h
 exact⟨⟨rfl,fun t a e=>by cases e <;> exact z0k _ _⟩,fun hp=>⟨_,v121 _ _ (hp _ (.head _)),rfl,v4,v5⟩⟩
theorem d6z:o8 Tryz.prog 124:=⟨Tryz.f124,Tryz.func124,by kernel_rfl,by kernel_rfl⟩
def d2p (E:List Ev) (k a:Int):Prop:=n9 (({ loops:=[(0,.of (c3s E k a 8 7))] }:Kit)).tab Tryz.f124 [.sl 0 E.length,.i .i64 k,.i .i64 a] [.arr E.length (g9 E)] (l8 (.i .i64 (c0w E k a)))
theorem d1g (E:List Ev) (k a:Int):d2p E k a=(
 let b:=PLoop.of (c3s E k a (8:Nat) (7:Nat))
 let c:=(0:Int)
 ∃(x:PUnit),(∃(x:Nat),x≤k.toNat∧(c=(↑x:Int)∧c=a1f a E x∧True)∧True)∧∀(x_1:Nat),x_1≤k.toNat→(decide ((↑x_1:Int) < k)=true→(c≤(↑x_1:Int)∧(↑x_1:Int) < (↑E.length:Int))∧x_1 < E.length∧(((b8 e0 E x_1).ag ==a)=true→∃(x_2:Nat),x_2≤k.toNat∧(b.ann x).mu x_2 < (b.ann x).mu x_1∧(E.length=E.length∧k=k∧a=a∧c=c∧IntKind.i64.wrap (a1f a E x_1 + (1:Int))=a1f a E x_2∧IntKind.i64.wrap ((↑x_1:Int) + (1:Int))=(↑x_2:Int)∧True)∧eqA E.length (g9 E)∧True)∧(((b8 e0 E x_1).ag ==a)=false→∃(x_2:Nat),x_2≤k.toNat∧(b.ann x).mu x_2 < (b.ann x).mu x_1∧(E.length=E.length∧k=k∧a=a∧c=c∧a1f a E x_1=a1f a E x_2∧IntKind.i64.wrap ((↑x_1:Int) + (1:Int))=(↑x_2:Int)∧True)∧eqA E.length (g9 E)∧True))∧(decide ((↑x_1:Int) < k)=false→a1f a E x_1=c0w E k a)):=by kernel_rfl
theorem v124 (E:List Ev) (k a:Int) (h:(0≤k∧k≤E.length)∧L40 E.length):d2p E k a:=by
 rw[d1g]
 simp only[eq_self,true_and,and_true,z0p,imp_self,m5,n5,o0,g8,i9,PLoop.of,s5,AV.len,j5,z0v,j8,l5,l6,m6,m7,m8,c3s]
 obtain⟨⟨h0,h1⟩,h2⟩:=h
 refine⟨(),⟨0,by omega,rfl,rfl⟩,fun j hj=>⟨fun hlt=>?_,fun hlt=>?_⟩⟩
 ·have h3:j < k.toNat:=by have:=z0e hlt; omega
  have h4:j < E.length:=by omega
  have h5:=b7w a E j
  have h6:=wrS (n:=E.length) h4 h2
  have h7:E.length≤1099511627776:=h2
  refine⟨⟨by omega,by omega⟩,h4,fun he=>⟨j + 1,by omega,by omega,?_,h6⟩,fun he=>⟨j + 1,by omega,by omega,?_,h6⟩⟩
  ·simp only[a1f,he,z0f]
   exact a7h (by omega) (by omega)
  ·simp only[a1f,he,z0m]
 ·have h3:j=k.toNat:=by have:=z0l hlt; omega
  rw[h3]; rfl
theorem n124 (nm:List (Option AV)):CallOk Tryz.prog [] 124 (n8 EL none nm [.lf .es,.lf .i,.lf .i] d4d):=y5 Tryz.func124 d6z fun av pre rv h=>by
 unfold d4d at h; split at h <;> cases h
 exact⟨⟨rfl,fun t a e=>by cases e <;> exact z0k _ _⟩,fun hp=>⟨_,v124 _ _ _ (hp _ (.head _)),rfl,v4,v5⟩⟩
def x5 (M:List (List Int)) (o:Int):List Int:=b8 [] M o.toNat
def d3a (E:List Ev) (M:List (List Int)):Prop:=(∀ r∈M,L40 r.length)∧∀ i:Int,0≤i→i < E.length→wrE (evA E i)=true→0≤(evA E i).ob∧(evA E i).ob < M.length
end Go.Proofs.YtaeeaniofljmnaaGreatDoor
