/-
  A part of the proof (J57a).
-/
import Derived.Test.YtaeeaniofljmnaaGreatDoorJ56a
namespace Go.Proofs.YtaeeaniofljmnaaGreatDoor
set_option linter.unusedSimpArgs false
set_option linter.unusedVariables false
open Go Go.Proofs.YtaeeaniofljmnaaGreatDoor.Sx
set_option maxRecDepth 100000
theorem b9q {α:Type} (d:α):∀ {l:List α} {j:Nat},l.length≤j→b6 d l j=d:=by
 intro l
 induction l with
 | nil=>intro j _; rfl
 | cons x r ih=>intro j h; cases j with
  | zero=>simp at h
  | succ j=>exact ih (by simpa using h)
theorem a86 {α:Type} (d:α) {l:List α} {k j:Nat} (h:j < k):b6 d (l.take k) j=b6 d l j:=by
 by_cases hj:j < l.length
 ·rw[o6 d l j hj,o6 d _ j (by simp; omega)]
  simp
 ·rw[b9q d (by simp; omega),b9q d (by omega)]
theorem b2g (n:Int) (r:List Int):∀ q,(s8 n r q).length≤q:=by
 intro q
 induction q with
 | zero=>simp[s8]
 | succ q ih=>rw[s8]; cases decide (b6 0 r q < n) <;> simp <;> omega
theorem c9n {l:List Int} {x:Int}:∀ j,j < (l ++ [x]).length→(bif Nat.blt j l.length then b6 0 l j else d9 [x] (j - l.length))=b6 0 (l ++ [x]) j:=fun j hj=>by
 simp only[z0x,z3f] at hj
 cases h:Nat.blt j l.length
 ·obtain rfl:j=l.length:=by
   have:¬ j < l.length:=fun h'=>by rw[← z0u] at h'; rw[h] at h'; cases h'
   omega
  rw[z0l,a6u]; simp; rfl
 ·rw[z0f,a5i 0 (by rwa [z0u] at h)]
theorem fo69:p8 Tryz.prog 69:=⟨Tryz.f69,Tryz.func69,by kernel_rfl,by kernel_rfl⟩
def q69D (l:List Ev):Prop:=p7 (({ sure:=[1000002] }:Kit)).tab Tryz.f69 [.sl 0 l.length] [.arr l.length (i6 l)] ((QV.rv (.sl (fun k=>.sl 0 k) (.es l))).post EL)
theorem d84 (l:List Ev):q69D l=(
 let a:=AV.es l
 let b:=(0:Nat)
 (l.length=b→b=a.len∧(a.len=b∧a.len=b∧a.len=b∧a.len=b∧a.len=b∧a.len=b∧a.len=b∧a.len=b∧a.len=b∧True)∧b=a.len)∧b=b∧l.length=l.length∧(b + l.length) * (72:Nat)≤(140737488355328:Nat)∧b + l.length≤(9223372036854775807:Nat)∧b + l.length=a.len∧((∀(j:Nat),j < a.len→(b6 e0 l j).ag=(b6 e0 l j).ag)∧(∀(j:Nat),j < a.len→(b6 e0 l j).ix=(b6 e0 l j).ix)∧(∀(j:Nat),j < a.len→(b6 e0 l j).k=(b6 e0 l j).k)∧(∀(j:Nat),j < a.len→(b6 e0 l j).ob=(b6 e0 l j).ob)∧(∀(j:Nat),j < a.len→(b6 e0 l j).mu=(b6 e0 l j).mu)∧(∀(j:Nat),j < a.len→(b6 e0 l j).en=(b6 e0 l j).en)∧(∀(j:Nat),j < a.len→(b6 e0 l j).od=(b6 e0 l j).od)∧(∀(j:Nat),j < a.len→(b6 e0 l j).rd=(b6 e0 l j).rd)∧(∀(j:Nat),j < a.len→(b6 e0 l j).wr=(b6 e0 l j).wr)∧True)∧b + l.length=a.len):=by kernel_rfl
theorem v69 (l:List Ev) (h:L40 l.length):q69D l:=by
 rw[d84]
 simp only[eq_self,true_and,and_true,z0n,imp_self,l9,m6,n5,g7,g8,PLoop.of,q6,AV.len,g9,z0s,i9,j4,j5,l5,l6,l7,z1b]
 have h:l.length≤1099511627776:=h
 exact⟨fun h0=>by simp only[h0,and_self],by omega,by omega⟩
theorem n69 (nm:List (Option AV)):CallOk Tryz.prog [] 69 (o5 EL none nm [.lf .es] d62):=x4 Tryz.func69 fo69 fun av pre rv h=>by
 unfold d62 at h; split at h <;> cases h
 exact⟨⟨rfl,fun t a e=>by cases e <;> exact z0h _ _⟩,fun hp=>⟨_,v69 _ (hp _ (.head _)),rfl,t9,u4⟩⟩
theorem fo70:p8 Tryz.prog 70:=⟨Tryz.f70,Tryz.func70,by kernel_rfl,by kernel_rfl⟩
def q70D (l:List Int):Prop:=p7 (({ sure:=[1000002] }:Kit)).tab Tryz.f70 [.sl 0 l.length] [.arr l.length (f7 l)] ((QV.rv (.sl (fun k=>.sl 0 k) (.is l))).post EL)
theorem d85 (l:List Int):q70D l=(
 let a:=(0:Nat)
 let b:=AV.is l
 (l.length=a→a=b.len∧(b.len=a∧True)∧a=b.len)∧a=a∧l.length=l.length∧(a + l.length) * (8:Nat)≤(140737488355328:Nat)∧a + l.length≤(9223372036854775807:Nat)∧a + l.length=b.len∧((∀(j:Nat),j < b.len→b6 (0:Int) l j=b6 (0:Int) l j)∧True)∧a + l.length=b.len):=by kernel_rfl
theorem v70 (l:List Int) (h:L40 l.length):q70D l:=by
 rw[d85]
 simp only[eq_self,true_and,and_true,z0n,imp_self,l9,m6,n5,g7,g8,PLoop.of,q6,AV.len,g9,z0s,i9,j4,j5,l5,l6,l7,z1b]
 have h:l.length≤1099511627776:=h
 exact⟨fun h0=>by simp only[h0,and_self],by omega,by omega⟩
theorem n70 (nm:List (Option AV)):CallOk Tryz.prog [] 70 (o5 EL none nm [.lf .is] d63):=x4 Tryz.func70 fo70 fun av pre rv h=>by
 unfold d63 at h; split at h <;> cases h
 exact⟨⟨rfl,fun t a e=>by cases e <;> exact z0h _ _⟩,fun hp=>⟨_,v70 _ (hp _ (.head _)),rfl,t9,u4⟩⟩
theorem fo72:p8 Tryz.prog 72:=⟨Tryz.f72,Tryz.func72,by kernel_rfl,by kernel_rfl⟩
theorem ii72 {l:List (Nat × PLoop)} {t:List (Nat × (List Slot→List MBlk→List Gh))} {s:List Nat}:a26 (72,⟨Tryz.f72,l,t,s⟩):=⟨Tryz.func72,fo72⟩
theorem c3c {n:Int}:∀ {l:List Int} {j i:Nat},(∀ q,q < j→b6 0 l q < n)→j < l.length→b6 0 l j ≥ n→b3q n l i=i + j:=by
 intro l
 induction l with
 | nil=>intro j i _ h; simp at h
 | cons x r ih =>
  intro j i h1 h2 h3
  cases j with
  | zero =>
   have:decide (x ≥ n)=true:=by simpa [b6] using h3
   rw[b3q,this]; simp
  | succ j =>
   have hx:decide (x ≥ n)=false:=by have:=h1 0 (by omega); simpa [b6] using this
   have:=ih (j:=j) (i:=i + 1) (fun q hq=>h1 (q + 1) (by omega)) (by simpa using h2) h3
   rw[b3q,hx,z0l,this]; omega
theorem b92 {n:Int}:∀ {l:List Int} {i:Nat},(∀ q,q < l.length→b6 0 l q < n)→b3q n l i = -1:=by
 intro l
 induction l with
 | nil=>intro i _; rfl
 | cons x r ih =>
  intro i h1
  have hx:decide (x ≥ n)=false:=by have:=h1 0 (by simp); simpa [b6] using this
  rw[b3q,hx,z0l,ih fun q hq=>h1 (q + 1) (by simpa using hq)]
theorem b9z {n:Int} {l:List Int} {j:Nat} (h:m8 (a3n n l) j=true):∀ q,q < j→b6 0 l q < n:=fun q hq=>by
 have:=a02.1 h q hq
 rw[a3n,inA,z1m] at this
 exact z0e this
theorem d9f:p8 Tryz.prog 122:=⟨Tryz.f122,Tryz.func122,by kernel_rfl,by kernel_rfl⟩
def d4e (l:List Int) (n:Int):Prop:=p7 (({ inl:=[pfxI],loops:=[(0,.of (d0y l n 8))] }:Kit)).tab Tryz.f122 [.sl 0 l.length,.fn 72 [.ptr 1 0]] [.arr l.length (f7 l),.old [.i .i64 n]] (l4 (.i .i64 (a3r n l)))
theorem d2w (l:List Int) (n:Int):d4e l n=(
 let a:=(↑l.length:Int)
 let b:=PLoop.of (d0y l n (8:Nat))
 ∃(x:PUnit),(∃(x:Nat),(x≤l.length∧m8 (a3n n l) x=true)∧((0:Int)=(↑x:Int)∧True)∧True)∧∀(x_1:Nat),x_1≤l.length∧m8 (a3n n l) x_1=true→(decide ((↑x_1:Int) < a)=true→((0:Int)≤(↑x_1:Int)∧(↑x_1:Int) < a)∧x_1 < l.length∧∀(us:List Value),us=us∧(decide (b6 (0:Int) l x_1 ≥ n)=true→(↑x_1:Int)=a3r n l)∧(decide (b6 (0:Int) l x_1 ≥ n)=false→∃(x_2:Nat),(x_2≤l.length∧m8 (a3n n l) x_2=true)∧(b.ann x).mu x_2 < (b.ann x).mu x_1∧(l.length=l.length∧True∧l.length=l.length∧a=a∧IntKind.i64.wrap ((↑x_1:Int) + (1:Int))=(↑x_2:Int)∧True)∧eqA l.length (f7 l)∧n=n∧True))∧(decide ((↑x_1:Int) < a)=false→(-1:Int)=a3r n l)):=by kernel_rfl
theorem v122 (l:List Int) (n:Int) (h:L40 l.length):d4e l n:=by
 rw[d2w]
 simp only[eq_self,true_and,and_true,z0n,imp_self,l9,m6,n5,g7,g8,PLoop.of,q6,AV.len,g9,z0s,i9,j4,j5,l5,l6,l7,d0y,lAl]
 have h:l.length≤1099511627776:=h
 refine⟨(),⟨0,⟨by omega,rfl⟩,rfl⟩,fun j hj=>⟨fun hlj=>?_,fun hlj=>?_⟩⟩
 ·have hj2:j < l.length:=by have:=z0e hlj; omega
  refine⟨⟨by omega,by omega⟩,hj2,fun hd=>?_,fun hd=>⟨j + 1,⟨by omega,?_⟩,by omega,wrS (n:=l.length) hj2 h⟩⟩
  ·rw[a3r,c3c (b9z hj.2) hj2 (z0e hd)]; omega
  ·have:=z0i hd
   rw[m8,hj.2,z1h,a3n,inA,z1m]
   exact decide_eq_true (by omega)
 ·have hj2:j=l.length:=by have:=z0i hlj; omega
  subst hj2
  exact(b92 (b9z hj.2)).symm
theorem n122 (nm:List (Option AV)):CallOk Tryz.prog [] 122 (o5 EL none nm [.lf .is,.cb 72 [.i]] d6e):=x4 Tryz.func122 d9f fun av pre rv h=>by
 unfold d6e at h; split at h <;> cases h
 exact⟨⟨rfl,fun t a e=>by cases e <;> exact z0h _ _⟩,fun hp=>⟨_,v122 _ _ (hp _ (.head _)),rfl,t9,(a3s ii72 u4)⟩⟩
def b4l (E:List Ev) (R:List Int) (M:List (List Int)) (n:Int):Prop:=∃(x:PUnit),(∃(x:Nat),(x≤n.toNat∧m8 (a3n n R) x=true)∧((0:Int)=(↑x:Int)∧True)∧True)∧∀(x_1:Nat),x_1≤n.toNat∧m8 (a3n n R) x_1=true→(decide ((↑x_1:Int) < n)=true→((0:Int)≤(↑x_1:Int)∧(↑x_1:Int) < (↑R.length:Int))∧x_1 < R.length∧(decide (b6 (0:Int) R x_1 ≥ n)=true→(30:Int)=a5y E R M n∧(f8 (pfK E R M n) (List.take n.toNat E)).length=(0:Nat)∧(f8 (pfK E R M n) (List.take n.toNat R)).length=(0:Nat)∧(f8 (pfK E R M n) (List.map (u7 n) M)).length=(0:Nat))∧(decide (b6 (0:Int) R x_1 ≥ n)=false→∃(x_2:Nat),(x_2≤n.toNat∧m8 (a3n n R) x_2=true)∧((PLoop.of (lAl (a3n n R) n.toNat (7:Nat))).ann x).mu x_2 < ((PLoop.of (lAl (a3n n R) n.toNat (7:Nat))).ann x).mu x_1∧((E.length=E.length∧R.length=R.length∧M.length=M.length)∧n=n∧True∧True∧True∧IntKind.i64.wrap ((↑x_1:Int) + (1:Int))=(↑x_2:Int)∧(E.length=E.length∧R.length=R.length∧M.length=M.length)∧b8 E R M=b8 E R M∧false=false∧n=n∧decide (n < (0:Int))=decide (n < (0:Int))∧decide (n < (0:Int))=decide (n < (0:Int))∧false=false∧True∧E.length=E.length∧n=n∧((0:Nat)=(0:Nat)∧n.toNat=n.toNat)∧(0:Nat) + n.toNat=(0:Nat) + n.toNat∧True∧R.length=R.length∧n=n∧((0:Nat)=(0:Nat)∧n.toNat=n.toNat)∧(0:Nat) + n.toNat=(0:Nat) + n.toNat∧((0:Nat) + n.toNat=(0:Nat) + n.toNat∧(0:Nat) +
 n.toNat=(0:Nat) + n.toNat∧True)∧True)∧eqA E.length (i6 E)∧eqA R.length (f7 R)∧eqA M.length (i4 M)∧(E.length=E.length∧R.length=R.length∧M.length=M.length)∧(True∧True∧True)∧eqA ((0:Nat) + n.toNat) [Col.int IntKind.i64 fun(j:Nat)=>(b6 e0 E ((0:Nat) + j)).ag,Col.int IntKind.i64 fun(j:Nat)=>(b6 e0 E ((0:Nat) + j)).ix,Col.int IntKind.i64 fun(j:Nat)=>(b6 e0 E ((0:Nat) + j)).k,Col.int IntKind.i64 fun(j:Nat)=>(b6 e0 E ((0:Nat) + j)).ob,Col.int IntKind.i64 fun(j:Nat)=>(b6 e0 E ((0:Nat) + j)).mu,Col.int IntKind.i64 fun(j:Nat)=>(b6 e0 E ((0:Nat) + j)).en,Col.int IntKind.i64 fun(j:Nat)=>(b6 e0 E ((0:Nat) + j)).od,Col.int IntKind.i64 fun(j:Nat)=>(b6 e0 E ((0:Nat) + j)).rd,Col.int IntKind.i64 fun(j:Nat)=>(b6 e0 E ((0:Nat) + j)).wr]∧eqA ((0:Nat) + n.toNat) [Col.int IntKind.i64 fun(j:Nat)=>b6 (0:Int) R ((0:Nat) + j)]∧((0:Nat) + n.toNat=(0:Nat) + n.toNat∧(0:Nat) + n.toNat=(0:Nat) + n.toNat∧True)∧True))∧(decide ((↑x_1:Int) < n)=false→(0:Nat)=(0:Nat)∧∃(x:PUnit),(∃(x:Nat),(x≤M.length∧True)∧((0:Int)=(↑x:Int)∧True)∧((0:Nat) + n.toNat=n.toNat∧(0:Nat) + n.toNat=n.toNat∧(0:Nat)=x)∧((0:Nat)=x∧((∀(j:Nat),j < x→(b6 ([]:List Int) [] j).length=(b6 [] (mpA (u7 n) [] M x) j).length)∧(∀(j:Nat),j < x→∀(i:Nat),i < (b6 [] (mpA (u7 n) [] M x)
 j).length→b6 (0:Int) (b6 ([]:List Int) [] j) i=b6 (0:Int) (b6 [] (mpA (u7 n) [] M x) j) i)∧True)∧True)∧True)∧∀(x_2:Nat),x_2≤M.length∧True→(decide ((↑x_2:Int) < (↑M.length:Int))=true→∃(x_3:Nat),(∃(x:Nat),(x≤(q8 M x_3).length∧x_3 < M.length)∧((0:Int)=(↑x:Int)∧(0:Nat)=(s8 n (q8 M x_3) x).length∧True)∧((0:Nat)=(s8 n (q8 M x_3) x).length∧(s8 n (q8 M x_3) x).length=(0:Nat)∧True)∧True)∧∀(x_4:Nat),x_4≤(q8 M x_3).length∧x_3 < M.length→((0:Int)≤(↑x_2:Int)∧(↑x_2:Int) < (↑M.length:Int))∧x_2 < M.length∧(decide ((↑x_4:Int) < (↑(b6 [] M x_2).length:Int))=true→((0:Int)≤(↑x_2:Int)∧(↑x_2:Int) < (↑M.length:Int))∧x_2 < M.length∧((0:Int)≤(↑x_4:Int)∧(↑x_4:Int) < (↑(b6 [] M x_2).length:Int))∧x_4 < (b6 [] M x_2).length∧(decide (b6 (0:Int) (b6 [] M x_2) x_4 < n)=true→((0:Int)≤(↑x_2:Int)∧(↑x_2:Int) < (↑M.length:Int))∧x_2 < M.length∧((0:Int)≤(↑x_4:Int)∧(↑x_4:Int) < (↑(b6 [] M x_2).length:Int))∧x_4 < (b6 [] M x_2).length∧(s8 n (q8 M x_3) x_4).length=(s8 n (q8 M x_3) x_4).length∧(1:Nat)=(1:Nat)∧((s8 n (q8 M x_3) x_4).length + (1:Nat)) * (8:Nat)≤(140737488355328:Nat)∧(s8 n (q8 M x_3) x_4).length + (1:Nat)≤(9223372036854775807:Nat)∧∃(x:Nat),(x≤(q8 M x_3).length∧x_3 < M.length)∧((lF4 M n (10:Nat) (9:Nat) (12:Nat)).ann
 x_3).mu x < ((lF4 M n (10:Nat) (9:Nat) (12:Nat)).ann x_3).mu x_4∧((E.length=E.length∧R.length=R.length∧M.length=M.length)∧n=n∧True∧True∧True∧(↑x_1:Int)=(↑x_1:Int)∧(↑x_2:Int)=(↑x_2:Int)∧(s8 n (q8 M x_3) x_4).length + (1:Nat)=(s8 n (q8 M x_3) x).length∧IntKind.i64.wrap ((↑x_4:Int) + (1:Int))=(↑x:Int)∧(E.length=E.length∧R.length=R.length∧M.length=M.length)∧b8 E R M=b8 E R M∧false=false∧n=n∧decide (n < (0:Int))=decide (n < (0:Int))∧decide (n < (0:Int))=decide (n < (0:Int))∧false=false∧True∧E.length=E.length∧n=n∧((0:Nat)=(0:Nat)∧n.toNat=n.toNat)∧(0:Nat) + n.toNat=(0:Nat) + n.toNat∧True∧R.length=R.length∧n=n∧((0:Nat)=(0:Nat)∧n.toNat=n.toNat)∧(0:Nat) + n.toNat=(0:Nat) + n.toNat∧((0:Nat) + n.toNat=(0:Nat) + n.toNat∧(0:Nat) + n.toNat=(0:Nat) + n.toNat∧True)∧(↑x_1:Int)=(↑x_1:Int)∧n=n∧false=false∧(↑x_2:Int)=(↑x_2:Int)∧True∧M.length=M.length∧(↑M.length:Int)=(↑M.length:Int)∧true=true∧True)∧eqA E.length (i6 E)∧eqA R.length (f7 R)∧eqA M.length (i4 M)∧(E.length=E.length∧R.length=R.length∧M.length=M.length)∧(True∧True∧True)∧eqA ((0:Nat) + n.toNat) [Col.int IntKind.i64 fun(j:Nat)=>(b6 e0 E ((0:Nat) + j)).ag,Col.int IntKind.i64 fun(j:Nat)=>(b6 e0 E ((0:Nat) + j)).ix,Col.int IntKind.i64 fun(j :
 Nat)=>(b6 e0 E ((0:Nat) + j)).k,Col.int IntKind.i64 fun(j:Nat)=>(b6 e0 E ((0:Nat) + j)).ob,Col.int IntKind.i64 fun(j:Nat)=>(b6 e0 E ((0:Nat) + j)).mu,Col.int IntKind.i64 fun(j:Nat)=>(b6 e0 E ((0:Nat) + j)).en,Col.int IntKind.i64 fun(j:Nat)=>(b6 e0 E ((0:Nat) + j)).od,Col.int IntKind.i64 fun(j:Nat)=>(b6 e0 E ((0:Nat) + j)).rd,Col.int IntKind.i64 fun(j:Nat)=>(b6 e0 E ((0:Nat) + j)).wr]∧eqA ((0:Nat) + n.toNat) [Col.int IntKind.i64 fun(j:Nat)=>b6 (0:Int) R ((0:Nat) + j)]∧(n.toNat=n.toNat∧n.toNat=n.toNat∧x_2=x_2)∧eqA x_2 (i4 (mpA (u7 n) [] M x_2))∧((s8 n (q8 M x_3) x_4).length + (1:Nat)=(s8 n (q8 M x_3) x).length∧(∀(j:Nat),j < (s8 n (q8 M x_3) x).length→(bif j.blt (s8 n (q8 M x_3) x_4).length then b6 (0:Int) (s8 n (q8 M x_3) x_4) j else d9 [b6 (0:Int) (b6 [] M x_2) x_4] (j - (s8 n (q8 M x_3) x_4).length))=b6 (0:Int) (s8 n (q8 M x_3) x) j)∧True)∧True)∧(decide (b6 (0:Int) (b6 [] M x_2) x_4 < n)=false→∃(x:Nat),(x≤(q8 M x_3).length∧x_3 < M.length)∧((lF4 M n (10:Nat) (9:Nat) (12:Nat)).ann x_3).mu x < ((lF4 M n (10:Nat) (9:Nat) (12:Nat)).ann x_3).mu x_4∧((E.length=E.length∧R.length=R.length∧M.length=M.length)∧n=n∧True∧True∧True∧(↑x_1:Int)=(↑x_1:Int)∧(↑x_2:Int)=(↑x_2:Int)∧(s8 n (q8 M x_3) x_4).length=(s8 n (q8 M x_3) x).length ∧
 IntKind.i64.wrap ((↑x_4:Int) + (1:Int))=(↑x:Int)∧(E.length=E.length∧R.length=R.length∧M.length=M.length)∧b8 E R M=b8 E R M∧false=false∧n=n∧decide (n < (0:Int))=decide (n < (0:Int))∧decide (n < (0:Int))=decide (n < (0:Int))∧false=false∧True∧E.length=E.length∧n=n∧((0:Nat)=(0:Nat)∧n.toNat=n.toNat)∧(0:Nat) + n.toNat=(0:Nat) + n.toNat∧True∧R.length=R.length∧n=n∧((0:Nat)=(0:Nat)∧n.toNat=n.toNat)∧(0:Nat) + n.toNat=(0:Nat) + n.toNat∧((0:Nat) + n.toNat=(0:Nat) + n.toNat∧(0:Nat) + n.toNat=(0:Nat) + n.toNat∧True)∧(↑x_1:Int)=(↑x_1:Int)∧n=n∧false=false∧(↑x_2:Int)=(↑x_2:Int)∧True∧M.length=M.length∧(↑M.length:Int)=(↑M.length:Int)∧true=true∧True)∧eqA E.length (i6 E)∧eqA R.length (f7 R)∧eqA M.length (i4 M)∧(E.length=E.length∧R.length=R.length∧M.length=M.length)∧(True∧True∧True)∧eqA ((0:Nat) + n.toNat) [Col.int IntKind.i64 fun(j:Nat)=>(b6 e0 E ((0:Nat) + j)).ag,Col.int IntKind.i64 fun(j:Nat)=>(b6 e0 E ((0:Nat) + j)).ix,Col.int IntKind.i64 fun(j:Nat)=>(b6 e0 E ((0:Nat) + j)).k,Col.int IntKind.i64 fun(j:Nat)=>(b6 e0 E ((0:Nat) + j)).ob,Col.int IntKind.i64 fun(j:Nat)=>(b6 e0 E ((0:Nat) + j)).mu,Col.int IntKind.i64 fun(j:Nat)=>(b6 e0 E ((0:Nat) + j)).en,Col.int IntKind.i64 fun(j:Nat)=>(b6 e0 E ((0:Nat) +
 j)).od,Col.int IntKind.i64 fun(j:Nat)=>(b6 e0 E ((0:Nat) + j)).rd,Col.int IntKind.i64 fun(j:Nat)=>(b6 e0 E ((0:Nat) + j)).wr]∧eqA ((0:Nat) + n.toNat) [Col.int IntKind.i64 fun(j:Nat)=>b6 (0:Int) R ((0:Nat) + j)]∧(n.toNat=n.toNat∧n.toNat=n.toNat∧x_2=x_2)∧eqA x_2 (i4 (mpA (u7 n) [] M x_2))∧((s8 n (q8 M x_3) x_4).length=(s8 n (q8 M x_3) x).length∧(∀(j:Nat),j < (s8 n (q8 M x_3) x).length→b6 (0:Int) (s8 n (q8 M x_3) x_4) j=b6 (0:Int) (s8 n (q8 M x_3) x) j)∧True)∧True))∧(decide ((↑x_4:Int) < (↑(b6 [] M x_2).length:Int))=false→(s8 n (q8 M x_3) x_4).length=(s8 n (q8 M x_3) x_4).length∧x_2=x_2∧(1:Nat)=(1:Nat)∧(x_2 + (1:Nat)) * (24:Nat)≤(140737488355328:Nat)∧x_2 + (1:Nat)≤(9223372036854775807:Nat)∧∃(x_5:Nat),(x_5≤M.length∧True)∧((PLoop.of (lF3 M (u7 n) n.toNat (8:Nat) (10:Nat) (8:Nat) (9:Nat) (11:Nat))).ann x).mu x_5 < ((PLoop.of (lF3 M (u7 n) n.toNat (8:Nat) (10:Nat) (8:Nat) (9:Nat) (11:Nat))).ann x).mu x_2∧((E.length=E.length∧R.length=R.length∧M.length=M.length)∧n=n∧True∧True∧True∧(↑x_1:Int)=(↑x_1:Int)∧IntKind.i64.wrap ((↑x_2:Int) + (1:Int))=(↑x_5:Int)∧(E.length=E.length∧R.length=R.length∧M.length=M.length)∧b8 E R M=b8 E R M∧false=false∧n=n∧decide (n < (0:Int))=decide (n < (0:Int))∧decide (n < (0:Int))=decide (n <
 (0:Int))∧false=false∧True∧E.length=E.length∧n=n∧((0:Nat)=(0:Nat)∧n.toNat=n.toNat)∧(0:Nat) + n.toNat=(0:Nat) + n.toNat∧True∧R.length=R.length∧n=n∧((0:Nat)=(0:Nat)∧n.toNat=n.toNat)∧(0:Nat) + n.toNat=(0:Nat) + n.toNat∧((0:Nat) + n.toNat=(0:Nat) + n.toNat∧(0:Nat) + n.toNat=(0:Nat) + n.toNat∧True)∧(↑x_1:Int)=(↑x_1:Int)∧n=n∧false=false∧True)∧eqA E.length (i6 E)∧eqA R.length (f7 R)∧eqA M.length (i4 M)∧(E.length=E.length∧R.length=R.length∧M.length=M.length)∧(True∧True∧True)∧eqA ((0:Nat) + n.toNat) [Col.int IntKind.i64 fun(j:Nat)=>(b6 e0 E ((0:Nat) + j)).ag,Col.int IntKind.i64 fun(j:Nat)=>(b6 e0 E ((0:Nat) + j)).ix,Col.int IntKind.i64 fun(j:Nat)=>(b6 e0 E ((0:Nat) + j)).k,Col.int IntKind.i64 fun(j:Nat)=>(b6 e0 E ((0:Nat) + j)).ob,Col.int IntKind.i64 fun(j:Nat)=>(b6 e0 E ((0:Nat) + j)).mu,Col.int IntKind.i64 fun(j:Nat)=>(b6 e0 E ((0:Nat) + j)).en,Col.int IntKind.i64 fun(j:Nat)=>(b6 e0 E ((0:Nat) + j)).od,Col.int IntKind.i64 fun(j:Nat)=>(b6 e0 E ((0:Nat) + j)).rd,Col.int IntKind.i64 fun(j:Nat)=>(b6 e0 E ((0:Nat) + j)).wr]∧eqA ((0:Nat) + n.toNat) [Col.int IntKind.i64 fun(j:Nat)=>b6 (0:Int) R ((0:Nat) + j)]∧(n.toNat=n.toNat∧n.toNat=n.toNat∧x_2 + (1:Nat)=x_5)∧(x_2 + (1:Nat)=x_5∧((∀(j:Nat),j < x_5→(bif j.blt x_2 then
 (b6 [] (mpA (u7 n) [] M x_2) j).length else(s8 n (q8 M x_3) x_4).length)=(b6 [] (mpA (u7 n) [] M x_5) j).length)∧(∀(j:Nat),j < x_5→∀(i:Nat),i < (b6 [] (mpA (u7 n) [] M x_5) j).length→(bif j.blt x_2 then fun(i:Nat)=>b6 (0:Int) (b6 [] (mpA (u7 n) [] M x_2) j) i else b6 (0:Int) (s8 n (q8 M x_3) x_4)) i=b6 (0:Int) (b6 [] (mpA (u7 n) [] M x_5) j) i)∧True)∧True)∧True))∧(decide ((↑x_2:Int) < (↑M.length:Int))=false→(0:Int)=a5y E R M n∧(n.toNat=(f8 (pfK E R M n) (List.take n.toNat E)).length∧(0:Nat) + n.toNat=(f8 (pfK E R M n) (List.take n.toNat E)).length∧(∀(j:Nat),j < (f8 (pfK E R M n) (List.take n.toNat E)).length→(b6 e0 E ((0:Nat) + j)).ag=(b6 e0 (f8 (pfK E R M n) (List.take n.toNat E)) j).ag)∧(∀(j:Nat),j < (f8 (pfK E R M n) (List.take n.toNat E)).length→(b6 e0 E ((0:Nat) + j)).ix=(b6 e0 (f8 (pfK E R M n) (List.take n.toNat E)) j).ix)∧(∀(j:Nat),j < (f8 (pfK E R M n) (List.take n.toNat E)).length→(b6 e0 E ((0:Nat) + j)).k=(b6 e0 (f8 (pfK E R M n) (List.take n.toNat E)) j).k)∧(∀(j:Nat),j < (f8 (pfK E R M n) (List.take n.toNat E)).length→(b6 e0 E ((0:Nat) + j)).ob=(b6 e0 (f8 (pfK E R M n) (List.take n.toNat E)) j).ob)∧(∀(j:Nat),j < (f8 (pfK E R M n) (List.take n.toNat E)).length→(b6 e0 E ((0:Nat) + j)).mu=(b6 e0 (f8 (pfK E R M n) (List.take n.toNat E)) j).mu)∧(∀(j:Nat),j < (f8
 (pfK E R M n) (List.take n.toNat E)).length→(b6 e0 E ((0:Nat) + j)).en=(b6 e0 (f8 (pfK E R M n) (List.take n.toNat E)) j).en)∧(∀(j:Nat),j < (f8 (pfK E R M n) (List.take n.toNat E)).length→(b6 e0 E ((0:Nat) + j)).od=(b6 e0 (f8 (pfK E R M n) (List.take n.toNat E)) j).od)∧(∀(j:Nat),j < (f8 (pfK E R M n) (List.take n.toNat E)).length→(b6 e0 E ((0:Nat) + j)).rd=(b6 e0 (f8 (pfK E R M n) (List.take n.toNat E)) j).rd)∧(∀(j:Nat),j < (f8 (pfK E R M n) (List.take n.toNat E)).length→(b6 e0 E ((0:Nat) + j)).wr=(b6 e0 (f8 (pfK E R M n) (List.take n.toNat E)) j).wr)∧True)∧(n.toNat=(f8 (pfK E R M n) (List.take n.toNat R)).length∧(0:Nat) + n.toNat=(f8 (pfK E R M n) (List.take n.toNat R)).length∧(∀(j:Nat),j < (f8 (pfK E R M n) (List.take n.toNat R)).length→b6 (0:Int) R ((0:Nat) + j)=b6 (0:Int) (f8 (pfK E R M n) (List.take n.toNat R)) j)∧True)∧x_2=(f8 (pfK E R M n) (List.map (u7 n) M)).length∧x_2=(f8 (pfK E R M n) (List.map (u7 n) M)).length∧((∀(j:Nat),j < (f8 (pfK E R M n) (List.map (u7 n) M)).length→(b6 [] (mpA (u7 n) [] M x_2) j).length=(b6 [] (f8 (pfK E R M n) (List.map (u7 n) M)) j).length)∧(∀(j:Nat),j < (f8 (pfK E R M n) (List.map (u7 n) M)).length→∀(i:Nat),i < (b6 [] (f8 (pfK E R M n) (List.map (u7 n) M)) j).length→b6 (0:Int) (b6 [] (mpA (u7 n) [] M x_2) j) i=b6 (0:Int) (b6 [] (f8 (pfK E R M n)
 (List.map (u7 n) M)) j) i)∧True)∧True))
theorem d45 (E:List Ev) (R:List Int) (M:List (List Int)) (n:Int) (h:SzG E M) (hv:b8 E R M=true) (h0:0≤n) (h1:n≤E.length):a5y E R M n=bif m8 (a3n n R) n.toNat then 0 else 30:=by
 have:(decide (n < 0) || decide (n > E.length))=false:=by simp; omega
 simp only[a5y,hv,z2p,z0l,this]
theorem k23 (E:List Ev) (R:List Int) (M:List (List Int)) (n:Int) (h:SzG E M) (hv:b8 E R M=true) (h0:0≤n) (h1:n≤E.length):b4l E R M n:=by
 obtain⟨hG,hN⟩:=a06 hv h
 obtain⟨hM,hR⟩:=a1a hv
 have hrow:∀ o,o < M.length→(b6 [] M o).length≤1099511627776:=fun o ho=>h.2 hM _ (by rw[o6 [] M _ ho]; exact z1r ho)
 have hE:=d45 E R M n h hv h0 h1
 unfold b4l
 simp only[eq_self,true_and,and_true,z0n,imp_self,l9,m6,n5,g7,g8,PLoop.of,q6,AV.len,g9,z0s,i9,j4,j5,l5,l6,l7,lAl,lF3,lF4,z1b]
 refine⟨(),⟨0,⟨by omega,rfl⟩,rfl⟩,fun j hj=>⟨fun hlj=>?_,fun hlj=>?_⟩⟩
 ·have hj2:j < n.toNat:=by have:=z0e hlj; omega
  refine⟨⟨by omega,by omega⟩,by omega,fun hd=>?_,fun hd=>⟨j + 1,⟨by omega,?_⟩,by omega,wrS (n:=n.toNat) hj2 (by omega)⟩⟩
  ·have ha:m8 (a3n n R) n.toNat=false:=a0r hj2 (by rw[a3n,inA,z1m]; have:=z0e hd; exact decide_eq_false (by omega))
   rw[ha] at hE
   simp[hE,pfK,f8]
  ·have:=z0i hd
   rw[m8,hj.2,z1h,a3n,inA,z1m]
   exact decide_eq_true (by omega)
 have hj2:j=n.toNat:=by have:=z0i hlj; omega
 have ha:m8 (a3n n R) n.toNat=true:=by rw[← hj2]; exact hj.2
 rw[ha] at hE
 have hK:pfK E R M n=true:=by rw[pfK,hE]; rfl
 refine⟨(),⟨0,by simp⟩,fun o ho=>⟨fun hlo=>?_,fun hlo=>?_⟩⟩
 ·have ho2:o < M.length:=by have:=z0e hlo; omega
  have hro:=hrow o ho2
  have hx:q8 M o=b6 [] M o:=rfl
  refine⟨o,⟨0,by simp[ho2,s8]⟩,fun q hq=>⟨⟨by omega,by omega⟩,ho2,fun hlq=>?_,fun hlq=>?_⟩⟩
  ·have hq2:q < (b6 [] M o).length:=by have:=z0e hlq; omega
   have hfl:=b2g n (q8 M o) q
   have hw:=wrS (n:=(b6 [] M o).length) hq2 hro
   refine⟨⟨by omega,by omega⟩,ho2,⟨by omega,by omega⟩,hq2,fun hd=>?_,fun hd=>?_⟩
   ·have e:s8 n (q8 M o) (q + 1)=s8 n (q8 M o) q ++ [b6 0 (b6 [] M o) q]:=by rw[s8,hx,hd,z0f]
    have e2:(s8 n (q8 M o) q).length + 1=(s8 n (q8 M o) (q + 1)).length:=by rw[e,z0x]; rfl
    refine⟨⟨by omega,by omega⟩,ho2,⟨by omega,by omega⟩,hq2,by omega,by omega,q + 1,⟨by rw[hx]; omega,ho2⟩,by rw[hx]; omega,⟨e2,hw⟩,e2,?_⟩
    rw[e]
    exact c9n
   ·have e:s8 n (q8 M o) (q + 1)=s8 n (q8 M o) q:=by rw[s8,hx,hd,z0l]
    exact⟨q + 1,⟨by rw[hx]; omega,ho2⟩,by rw[hx]; omega,⟨by rw[e],hw⟩,by rw[e],fun j _=>by rw[e]⟩
  ·have hq2:q=(b6 [] M o).length:=by have:=z0i hlq; have:=hq.1; rw[hx] at this; omega
   have e:s8 n (q8 M o) q=u7 n (b6 [] M o):=by rw[hq2,hx]; rfl
   rw[e]
   refine⟨by omega,by omega,o + 1,by omega,by omega,wrS (n:=M.length) ho2 (by omega),rfl,rfl,fun j hj=>?_,fun j hj i _=>?_⟩
   ·cases hb:Nat.blt j o
    ·obtain rfl:=a51 hb hj
     rw[z0l,a9z]
    ·rw[z0f,b00 (by rwa [z0u] at hb)]
   ·cases hb:Nat.blt j o
    ·obtain rfl:=a51 hb hj
     rw[z0l,a9z]
    ·rw[z0f,b00 (by rwa [z0u] at hb)]
 have ho2:o=M.length:=by have:=z0i hlo; omega
 subst ho2
 simp only[hE,hK,f8,z0f,a49]
 have l1:(E.take n.toNat).length=n.toNat:=by simp; omega
 have l2:(R.take n.toNat).length=n.toNat:=by simp; omega
 have t1:∀ j,j < n.toNat→b6 e0 E j=b6 e0 (E.take n.toNat) j:=fun j hj=>(a86 e0 hj).symm
 simp only[l1,l2,z2s,z0n,and_true,true_and]
 exact⟨⟨fun j hj=>by rw[t1 j hj],fun j hj=>by rw[t1 j hj],fun j hj=>by rw[t1 j hj],fun j hj=>by rw[t1 j hj],fun j hj=>by rw[t1 j hj],fun j hj=>by rw[t1 j hj],fun j hj=>by rw[t1 j hj],fun j hj=>by rw[t1 j hj],fun j hj=>by rw[t1 j hj]⟩,fun j hj=>(a86 0 hj).symm⟩
theorem fo23:p8 Tryz.prog 23:=⟨Tryz.f23,Tryz.func23,by kernel_rfl,by kernel_rfl⟩
def q23D (E:List Ev) (R:List Int) (M:List (List Int)) (n:Int):Prop:=p7 (({ calls:=[c7e (nmG E R M)],loops:=[(0,.of (lAl (a3n n R) n.toNat 7)),(2,.of (lF3 M (u7 n) n.toNat 8 10 8 9 11)),(4,lF4 M n 10 9 12)],takes:=[(1000005,fun _ _=>[.mv 1,.mv 6,.mv 5,.mv 1,.mv 13,.mv 5,.mv 0,.mv 15,.mv 1,.mv 2,.mv 3,.mv 4,.mv 7,.mv 8,.mv 9,.mv 10,.mv 0,.mv 6,.mv 13,.mv 5,.mv 11,.mv 12,.mv 14,.mv 1,.mv 13,.mv 11,.mv 0,.mv 15,.mv 1,.mv 2,.mv 3,.mv 4,.mv 7,.mv 8,.mv 9,.mv 10,.mv 0,.mv 6,.mv 5,.mv 13,.mv 11,.mv 12,.mv 14,.mv 1,.mv 13,.mv 12,.mv 0,.mv 15,.mv 1,.mv 2,.mv 3,.mv 4,.mv 7,.mv 8,.mv 9,.mv 10,.mv 0,.mv 6,.mv 5,.mv 11,.mv 13,.mv 12,.mv 14,.mv 0,.mv 15,.mv 1,.mv 2,.mv 3,.mv 4,.mv 7,.mv 8,.mv 9,.mv 10,.mv 0,.mv 6,.mv 5,.mv 11,.mv 12,.mv 13,.mv 14,.mv 1,.mv 13,.mv 5,.mv 0,.mv 15,.mv 1,.mv 2,.mv 3,.mv 4,.mv 7,.mv 8,.mv 9,.mv 10,.mv 0,.mv 13,.mv 5,.mv 6,.mv 11,.mv 12,.mv 14,.mv 1,.mv 13,.mv 11,.mv 1,.mv 6,.mv 13,.mv 0,.mv 15,.mv 1,.mv 2,.mv 3,.mv 4,.mv 7,.mv 8,.mv 9,.mv 10,.mv 0,.mv 5,.mv 6,.mv 13,.mv 11,.mv 12,.mv 14,.mv 0,.mv 15,.mv 1,.mv 2,.mv 3,.mv 4,.mv 7,.mv 8,.mv 9,.mv 10,.mv 0,.mv 5,.mv 13,.mv 6,.mv 11,.mv 12,.mv 14,.mv 1,.mv 13,.mv 12,.mv 0,.mv 15,.mv 1,.mv 2,.mv 3,.mv 4,.mv 7,.mv 8,.mv 9,.mv 10,.mv 0,.mv 5,.mv 6,.mv 11,.mv 13,.mv 12,.mv 14,.mv 0,.mv 15,.mv 1,.mv 2,.mv 3,.mv 4,.mv 7,.mv 8,.mv 9,.mv 10,.mv 0,.mv 5,.mv 6,.mv 11,.mv 12,.mv 13,.mv 14]),(6,e0l),(11,fun _ _=>[.fresh 10 2 23 1,.cols 11 (i4 [])])] }:Kit)).tab Tryz.f23 [grV E R M,.i .i64 n] (grM E R M) ((pfV E R M n).post EL)
theorem d7d (E:List Ev) (R:List Int) (M:List (List Int)) (n:Int):q23D E R M n=(
 let a:=E.length=E.length∧(0:Int)≤n∧n≤(↑E.length:Int)∧R.length=R.length∧(0:Int)≤n∧n≤(↑R.length:Int)∧(0:Nat)=(0:Nat)∧(0:Nat) + n.toNat≤E.length∧((0:Nat) + n.toNat) * (72:Nat)≤(140737488355328:Nat)∧(0:Nat) + n.toNat≤(9223372036854775807:Nat)∧(0:Nat)=(0:Nat)∧(0:Nat) + n.toNat≤R.length∧((0:Nat) + n.toNat) * (8:Nat)≤(140737488355328:Nat)∧(0:Nat) + n.toNat≤(9223372036854775807:Nat)∧b4l E R M n
 let b:=(0:Nat)
 let c:=(9223372036854775807:Nat)
 let d:=(140737488355328:Nat)
 let e:=(↑E.length:Int)
 let f:=pfK E R M n
 let g:=b + n.toNat
 let h:=decide (n < (0:Int)) || decide (n > e)
 let i:=(↑R.length:Int)
 let j:=f8 f (List.take n.toNat E)
 let k:=f8 f (List.take n.toNat R)
 let l:=(0:Int)
 let m:=f8 f (List.map (u7 n) M)
 E.length=E.length∧R.length=R.length∧M.length=M.length∧nE E∧nI R∧nR M∧(E.length≤(1099511627776:Nat)∧(M.length≤(8:Nat)→∀(r:List Int),List.Mem r M→r.length≤(1099511627776:Nat)))∧((!b8 E R M)=true→(1:Int)=a5y E R M n∧j.length=b∧k.length=b∧m.length=b)∧((!b8 E R M)=false→(h=true→(2:Int)=a5y E R M n∧j.length=b∧k.length=b∧m.length=b)∧(h=false→(a∧a∧a∧E.length=E.length∧l≤n∧n≤e∧R.length=R.length∧l≤n∧n≤i∧b=b∧b + n.toNat≤E.length∧g * (72:Nat)≤d∧b + n.toNat≤c∧b=b∧b + n.toNat≤R.length∧g * (8:Nat)≤d∧b + n.toNat≤c∧b4l E R M n)∧a∧(a∧E.length=E.length∧l≤n∧n≤e∧R.length=R.length∧l≤n∧n≤i∧b=b∧b + n.toNat≤E.length∧g * (72:Nat)≤d∧b + n.toNat≤c∧b=b∧b + n.toNat≤R.length∧g * (8:Nat)≤d∧b + n.toNat≤c∧b4l E R M n)∧a∧E.length=E.length∧l≤n∧n≤e∧R.length=R.length∧l≤n∧n≤i∧b=b∧b + n.toNat≤E.length∧g * (72:Nat)≤d∧b + n.toNat≤c∧b=b∧b + n.toNat≤R.length∧g * (8:Nat)≤d∧b + n.toNat≤c∧b4l E R M n))):=by kernel_rfl
theorem v23 (E:List Ev) (R:List Int) (M:List (List Int)) (n:Int) (h:SzG E M):q23D E R M n:=by
 rw[d7d]
 simp only[eq_self,true_and,and_true,z0n,imp_self,l9,m6,n5,g7,g8,PLoop.of,q6,AV.len,g9,z0s,i9,j4,j5,l5,l6,l7,z1b]
 refine⟨⟨h.1,h.2⟩,fun hv=>?_,fun hv=>⟨fun hc=>?_,fun hc=>?_⟩⟩
 ·simp[a5y,pfK,hv,f8]
 ·rw[z2w] at hv
  have:a5y E R M n=2:=by simp only[a5y,hv,hc,z2p,z0l,z0f]
  simp[this,pfK,f8]
 ·rw[z2w] at hv
  obtain⟨hG,hN⟩:=a06 hv h
  obtain⟨hM,hR⟩:=a1a hv
  simp only[z1k,z1g] at hc
  have hk:=k23 E R M n h hv (by omega) (by omega)
  have c1:0≤n:=by omega
  have c2:n≤E.length:=by omega
  have c3:n≤R.length:=by omega
  have c4:n.toNat≤E.length:=by omega
  have c5:n.toNat≤R.length:=by omega
  have c6:n.toNat * 72≤140737488355328:=by omega
  have c7:n.toNat * 8≤140737488355328:=by omega
  have c8:n.toNat≤9223372036854775807:=by omega
  simp only[hk,c1,c2,c3,c4,c5,c6,c7,c8,and_self,true_and]
theorem n23 (nm:List (Option AV)):CallOk Tryz.prog [] 23 (o5 EL none nm [PG,.lf .i] c67):=x4 Tryz.func23 fo23 fun av pre rv h=>by
 unfold c67 at h; split at h <;> cases h
 exact⟨⟨rfl,fun t a e=>by cases e <;> exact z0h _ _⟩,fun hp=>⟨_,v23 _ _ _ _ (hp _ (.head _)),rfl,(m9 (n34 _) t9),u4⟩⟩
structure Kit2 extends Kit where
 cb:List (Nat × (List MBlk→List SV→Option BRes)):=[]
def Kit2.tab (k:Kit2):Tab:=⟨a79,k.toKit.gl,k.calls,k.loops,k.cb,[],k.takes,k.sure,k.inl,none,false⟩
theorem Kit2.ok {k:Kit2} (h:∀ p∈k.calls,CallOk Tryz.prog k.toKit.gl p.1 p.2) (hi:∀ p∈k.inl,a26 p) (hb:∀ p∈k.cb,CallOkB Tryz.prog k.toKit.gl p.1 p.2):TabOk Tryz.prog k.tab:=⟨mixed,tys,ints,fun _ _ hf=>h _ (v8 hf),fun _ _ hf=>hb _ (v8 hf),fun _ _ hf=>hi _ (v8 hf),fun _ hf=>by cases hf⟩
theorem e0k {fid:FuncId} {fn:Func} {ks:List PK} {nm:List (Option AV)} {S:List PV→Option (List Prop × QV)} (hfn:Tryz.prog.funcs[fid]?=some fn) (hok:p8 Tryz.prog fid)
  (hv:∀ av pre rv,S av=some (pre,rv)→(rv.ok=true∧∀ t a,rv=.rv (.sl t a)→a.cols≠[])∧((∀ p∈pre,p)→∃ k:Kit2,p7 k.tab fn (a7t 1 av) (tbl :: a2e 1 av) (rv.post EL)∧k.g=true∧(∀ p∈k.calls,CallOk Tryz.prog GL p.1 p.2)∧(∀ p∈k.inl,a26 p)∧∀ p∈k.cb,CallOkB Tryz.prog GL p.1 p.2)):CallOk Tryz.prog GL fid (o5 EL gbT nm ks S):=
 c1n hfn hok (fun g k h=>by cases h; exact⟨rfl,rfl,b6a⟩) (fun av pre rv h=>(hv av pre rv h).1) fun av pre rv h hp=>by
  obtain⟨k,h1,h2,h3,h4,h5⟩:=(hv av pre rv h).2 hp
  exact⟨k.tab,Kit2.ok (by rw[Kit.gl,h2]; exact h3) h4 (by rw[Kit.gl,h2]; exact h5),by simp[Kit2.tab,Kit.gl,h2,gbG,gbT,GL],rfl,h1⟩
theorem d8t {G:List (Nat × Nat)} {f:Nat} {F:List MBlk→List SV→Option BRes} (h:CallOkB Tryz.prog G f F):∀ p∈[(f,F)],CallOkB Tryz.prog G p.1 p.2:=fun p hp=>by rcases z0r.1 hp with rfl; exact h
def delM (g:Nat→Int) (k:Nat) (n:Int):List MBlk:=[.oarr 3 k [.int .i64 g],.cells [.i .i64 n]]
def delV (k:Nat):List SV:=[.sl 0 k,.fn 72 [.ptr 1 0]]
def a3h (g:Nat→Int) (k:Nat) (n:Int):List Int:=u7 n (mkN g k)
def c70 (g:Nat→Int) (k:Nat) (n:Int):List (Nat × MBlk):=[(0,.oarr 3 (a3h g k n).length (f7 (a3h g k n))),(1,.cells [.i .i64 n])]
def d0n (g:Nat→Int) (k:Nat) (n:Int):SV→List MBlk→Prop:=fun sv m'=>veq (.sl 0 (a3h g k n).length) sv∧a5v (a7k (c70 g k n) 0 2) m'
def c4z (g:Nat→Int) (k:Nat) (n:Int) (t i e:Nat):LAnn:={ X:=Nat,inv:=fun j=>j≤k,slots:=fun j=>[(t,.i .i64 (j:Int)),(i,.i .i64 ((s8 n (mkN g k) j).length:Int))],mem:=fun j=>[(e,.oarr 3 k [.int .i64 (a8c n (mkN g k) j)])],mu:=fun j=>k - j,kill:=[] }
noncomputable def kitD (g:Nat→Int) (k:Nat) (n:Int):Kit:={ calls:=[kIdx []],inl:=[pfxI],loops:=[(0,.of (c4z g k n 6 5 0))] }
noncomputable def tabD (g:Nat→Int) (k:Nat) (n:Int) (pins:List (Nat × (Option Addr × Nat))):Tab:={ (kitD g k n).tab with pins:=pins }
def c7b:List MBlk→List SV→Option BRes
 | m,[.sl r k,.fn 72 [.ptr e 0]]=>match nth m r,nth m e with
  | some (.oarr 3 k' [.int .i64 g]),some (.cells [.i .i64 n])=>bif a5w [r,e] then some (tB [r,e] [] (c70 g k n) (.sl 0 (a3h g k n).length) [k=k',k≤1099511627776]) else none
  | _,_=>none
 | _,_=>none
end Go.Proofs.YtaeeaniofljmnaaGreatDoor
