/-
  A part of the proof (NV2).
-/
import Derived.Test.YtaeeaniofljmnaaGreatDoorN15
namespace Go.Proofs.YtaeeaniofljmnaaGreatDoor
set_option linter.unusedSimpArgs false
set_option linter.unusedVariables false
open Go Go.Proofs.YtaeeaniofljmnaaGreatDoor.Sx
set_option maxRecDepth 100000
def atF (R:List Int) (x:Int):Nat→Int
 | 0=>x
 | s + 1=>inA R (atF R x s)
def b4x (E:List Ev) (R:List Int):Prop:=R.length=E.length∧∀ j:Int,0≤j→j < E.length→inA R j < E.length
def a1j (E:List Ev) (R:List Int) (i:Int):Bool:=
 bif !rdE (evA E i) then inA R i == -2 else bif decide (inA R i < 0) || decide (inA R i ≥ E.length) then inA R i == -1 else inA R i != i && wrE (evA E (inA R i)) && (evA E (inA R i)).ob == (evA E i).ob
def d4h:SpG:=fun
 | [.ag [.es E,.is R,.rs M],.lf (.i i)]=>some ([(0≤i∧i < E.length)∧R.length=E.length],.rv (.pl (.b (a1j E R i))))
 | _=>none
def kSrc (nm:List (Option AV)):Nat × (List MBlk→List SV→Option AR):=(83,n8 EL none nm [PG,.lf .i] d4h)
def GOk (E:List Ev) (R:List Int) (M:List (List Int)):Prop:=d3a E M∧b4x E R∧L40 E.length∧∀ j:Int,0≤j→j < E.length→rdE (evA E j)=true→inA R j = -1∨(0≤inA R j∧inA R j < E.length)
theorem fo83:o8 Tryz.prog 83:=⟨Tryz.f83,Tryz.func83,by kernel_rfl,by kernel_rfl⟩
def q83D (E:List Ev) (R:List Int) (M:List (List Int)) (i:Int):Prop:=n9 (({ calls:=[kE1 84 wrE,kE1 86 rdE] }:Kit)).tab Tryz.f83 [grV E R M,.i .i64 i] (grM E R M) (l8 (.b (a1j E R i)))
theorem d60 (E:List Ev) (R:List Int) (M:List (List Int)) (i:Int):q83D E R M i=(
 let a:=(0:Int)
 let b:=b8 e0 E (b8 a R i.toNat).toNat
 let c:=decide (b8 a R i.toNat < a) || decide (b8 a R i.toNat ≥ (↑E.length:Int))
 let d:=(↑E.length:Int)
 let e:=b8 e0 E i.toNat
 let f:=b8 a R i.toNat !=i && wrE b
 (a≤i∧i < d)∧i.toNat < E.length∧(a≤i∧i < (↑R.length:Int))∧i.toNat < R.length∧((!rdE e)=true→(b8 a R i.toNat ==(-2:Int))=a1j E R i)∧((!rdE e)=false→(c=true→(b8 a R i.toNat ==(-1:Int))=a1j E R i)∧(c=false→((b8 a R i.toNat !=i)=true→a≤b8 a R i.toNat∧b8 a R i.toNat < d)∧((b8 a R i.toNat !=i)=true→(b8 a R i.toNat).toNat < E.length)∧(f=true→a≤b8 a R i.toNat∧b8 a R i.toNat < d)∧(f=true→(b8 a R i.toNat).toNat < E.length)∧(b8 a R i.toNat !=i && wrE b && b.ob ==e.ob)=a1j E R i))):=by kernel_rfl
theorem v83 (E:List Ev) (R:List Int) (M:List (List Int)) (i:Int) (h:(0≤i∧i < E.length)∧R.length=E.length):q83D E R M i:=by
 rw[d60]
 obtain⟨hi,hR⟩:=h
 have hiR:0≤i∧i < R.length:=by omega
 have n1:=a4q hi
 have n2:=a4q hiR
 have hb:((decide (b8 0 R i.toNat < 0) || decide (b8 0 R i.toNat ≥ E.length))=false)→0≤b8 0 R i.toNat∧b8 0 R i.toNat < E.length:=fun h=>by
  simp only[z1o,z1m] at h; omega
 refine⟨hi,n1,hiR,n2,fun h1=>?_,fun h1=>⟨fun h2=>?_,fun h2=>⟨fun _=>hb h2,fun _=>a4q (hb h2),fun _=>hb h2,fun _=>a4q (hb h2),?_⟩⟩⟩
 ·simp only[a1j,evA,h1,z0f]; rfl
 ·simp only[a1j,evA,inA,h1,z0m]
  erw [h2]
  rfl
 ·simp only[a1j,evA,inA,h1,z0m]
  erw [h2]
  rfl
theorem n83 (nm:List (Option AV)):CallOk Tryz.prog [] 83 (n8 EL none nm [PG,.lf .i] d4h):=y5 Tryz.func83 fo83 fun av pre rv h=>by
 unfold d4h at h; split at h <;> cases h
 exact⟨⟨rfl,fun t a e=>by cases e <;> exact z0k _ _⟩,fun hp=>⟨_,v83 _ _ _ _ (hp _ (.head _)),rfl,(m9 (n84 _) (m9 (n86 _) v4)),v5⟩⟩
def a6j (E:List Ev) (m:Nat) (i:Int):Bool:=
 n7 (evA E i) && (evA E i).k != 3 && (evA E i).k != 4 && (evA E i).en == -1 && (evA E i).ix == c0w E i (evA E i).ag && !((rdE (evA E i) || wrE (evA E i)) && decide ((evA E i).ob ≥ m))
def p7 (f:Int→Bool):Nat→Bool
 | 0=>true
 | j + 1=>p7 f j && f j
theorem a2o {f:Int→Bool}:∀ {n:Nat},p7 f n=true↔∀ i:Nat,i < n→f i=true:=by
 intro n
 induction n with
 | zero=>simp[p7]
 | succ n ih =>
  simp only[p7,z0d,ih]
  constructor
  ·rintro ⟨h1,h2⟩ i hi
   by_cases e:i=n
   ·rw[e]; exact h2
   ·exact h1 i (by omega)
  ·intro h
   exact⟨fun i hi=>h i (by omega),h n (by omega)⟩
theorem a1e {f:Int→Bool} {n j:Nat} (hj:j < n) (h:f j=false):p7 f n=false:=by
 cases e:p7 f n
 ·rfl
 ·rw[a2o.1 e j hj] at h; cases h
def a5y (E:List Ev) (m:Nat):Bool:=p7 (a6j E m) E.length
def d4c:SpG:=fun
 | [.ag [.es E,.is R,.rs M]]=>some ([L40 E.length],.rv (.pl (.b (a5y E M.length))))
 | _=>none
def lAl (f:Int→Bool) (n t:Nat):LAnn:=s5 n t (fun j=>p7 f j=true) (fun _=>[]) []
def kLsd (nm:List (Option AV)):Nat × (List MBlk→List SV→Option AR):=(82,n8 EL none nm [PG] d4c)
theorem fo82:o8 Tryz.prog 82:=⟨Tryz.f82,Tryz.func82,by kernel_rfl,by kernel_rfl⟩
def q82D (E:List Ev) (R:List Int) (M:List (List Int)):Prop:=n9 (({ calls:=[kE1 85 n7,kE1 86 rdE,kE1 84 wrE,kNum [some (.es E)]],loops:=[(0,.of (lAl (a6j E M.length) E.length 3))] }:Kit)).tab Tryz.f82 [grV E R M] (grM E R M) (l8 (.b (a5y E M.length)))
theorem d5z (E:List Ev) (R:List Int) (M:List (List Int)):q82D E R M=(
 let a:=E.length=E.length∧R.length=R.length∧M.length=M.length
 let b:=a6j E M.length
 let c:=(↑E.length:Int)
 let d:=PLoop.of (lAl b E.length (3:Nat))
 let e:=(-1:Int)
 ∃(x:PUnit),(∃(x:Nat),(x≤E.length∧p7 b x=true)∧((0:Int)=(↑x:Int)∧True)∧True)∧∀(x_1:Nat),x_1≤E.length∧p7 b x_1=true→(decide ((↑x_1:Int) < c)=true→((0:Int)≤(↑x_1:Int)∧(↑x_1:Int) < c)∧x_1 < E.length∧((!n7 (b8 e0 E x_1) || (b8 e0 E x_1).k ==(3:Int) || (b8 e0 E x_1).k ==(4:Int) || (b8 e0 E x_1).en !=e)=false→E.length=E.length)∧((!n7 (b8 e0 E x_1) || (b8 e0 E x_1).k ==(3:Int) || (b8 e0 E x_1).k ==(4:Int) || (b8 e0 E x_1).en !=e)=false→nE E)∧((!n7 (b8 e0 E x_1) || (b8 e0 E x_1).k ==(3:Int) || (b8 e0 E x_1).k ==(4:Int) || (b8 e0 E x_1).en !=e)=false→((0:Int)≤(↑x_1:Int)∧(↑x_1:Int)≤c)∧E.length≤(1099511627776:Nat))∧((!n7 (b8 e0 E x_1) || (b8 e0 E x_1).k ==(3:Int) || (b8 e0 E x_1).k ==(4:Int) || (b8 e0 E x_1).en !=e || (b8 e0 E x_1).ix !=c0w E (↑x_1:Int) (b8 e0 E x_1).ag)=true→false=a5y E M.length)∧((!n7 (b8 e0 E x_1) || (b8 e0 E x_1).k ==(3:Int) || (b8 e0 E x_1).k ==(4:Int) || (b8 e0 E x_1).en !=e || (b8 e0 E x_1).ix !=c0w E (↑x_1:Int) (b8 e0 E x_1).ag)=false→(((rdE (b8 e0 E x_1) || wrE (b8 e0 E x_1)) && decide ((b8 e0 E x_1).ob ≥ (↑M.length:Int)))=true→false=a5y E M.length)∧(((rdE (b8 e0 E x_1) || wrE (b8 e0 E x_1)) && decide ((b8 e0 E x_1).ob ≥ (↑M.length:Int)))=false→∃(x_2:Nat),(x_2≤E.length∧p7 b x_2=true)∧(d.ann x).mu x_2 < (d.ann x).mu x_1∧(a∧True∧IntKind.i64.wrap ((↑x_1:Int) + (1:Int))=(↑x_2:Int)∧True)∧eqA E.length (g9 E)∧eqA R.length (j6 R)∧eqA M.length (l4 M)∧a∧True)))∧(decide ((↑x_1:Int) < c)=false→true=a5y E M.length)):=by kernel_rfl
theorem v82 (E:List Ev) (R:List Int) (M:List (List Int)) (h:L40 E.length):q82D E R M:=by
 rw[d5z]
 have hL:E.length≤1099511627776:=h
 simp only[eq_self,true_and,and_true,z0p,imp_self,m5,n5,o0,g8,i9,PLoop.of,s5,AV.len,j5,z0v,j8,l5,l6,m6,m7,m8,lAl]
 refine⟨(),⟨0,⟨by omega,rfl⟩,rfl⟩,fun j hj=>⟨fun hlt=>?_,fun hlt=>?_⟩⟩
 ·have h1:j < E.length:=by have:=z0e hlt; omega
  have e:a6j E M.length j=(n7 (b8 e0 E j) && (b8 e0 E j).k != 3 && (b8 e0 E j).k != 4 && (b8 e0 E j).en == -1 && (b8 e0 E j).ix == c0w E j (b8 e0 E j).ag && !((rdE (b8 e0 E j) || wrE (b8 e0 E j)) && decide ((b8 e0 E j).ob ≥ M.length))):=rfl
  refine⟨⟨by omega,by omega⟩,h1,fun _=>⟨⟨by omega,by omega⟩,hL⟩,fun h2=>?_,fun h2=>⟨fun h3=>?_,fun h3=>⟨j + 1,⟨by omega,?_⟩,by omega,wrS (n:=E.length) h1 hL⟩⟩⟩
  ·refine(a1e h1 ?_).symm
   rw[e]; grind
  ·refine(a1e h1 ?_).symm
   rw[e,h3]; simp
  ·simp only[p7,hj.2,z1j]
   rw[e,h3]; grind
 ·have h1:j=E.length:=by have:=z0l hlt; omega
  have:=hj.2
  rw[h1] at this
  exact this.symm
theorem n82 (nm:List (Option AV)):CallOk Tryz.prog [] 82 (n8 EL none nm [PG] d4c):=y5 Tryz.func82 fo82 fun av pre rv h=>by
 unfold d4c at h; split at h <;> cases h
 exact⟨⟨rfl,fun t a e=>by cases e <;> exact z0k _ _⟩,fun hp=>⟨_,v82 _ _ _ (hp _ (.head _)),rfl,(m9 (n85 _) (m9 (n86 _) (m9 (n84 _) (m9 (n124 _) v4)))),v5⟩⟩
def y9 (E:List Ev) (o:Int) (j:Int):Bool:=wrE (evA E j) && (evA E j).ob == o
def a5d (E:List Ev) (o:Int):Nat→Int
 | 0=>0
 | j + 1=>bif y9 E o j then a5d E o j + 1 else a5d E o j
theorem c9e (E:List Ev) (o:Int):∀ j,0≤a5d E o j∧a5d E o j≤j:=by
 intro j
 induction j with
 | zero=>simp[a5d]
 | succ j ih=>simp only[a5d]; cases y9 E o j <;> simp <;> omega
def a7y (E:List Ev) (M:List (List Int)) (o:Int) (j:Int):Bool:=!(y9 E o j && decide (a75 (x5 M o) j < 0))
def a40 (E:List Ev) (M:List (List Int)) (o:Int):Bool:=p7 (a7y E M o) E.length && ((x5 M o).length:Int) == a5d E o E.length
def d6 (E:List Ev) (R:List Int) (M:List (List Int)):Bool:=
 decide (E.length≤64) && decide (R.length=E.length) && decide (M.length≤8) && a5y E M.length && p7 (a1j E R) E.length && p7 (a40 E M) M.length
def SzG (E:List Ev) (M:List (List Int)):Prop:=L40 E.length∧(M.length≤8→∀ r∈M,L40 r.length)
def c4z:SpG:=fun
 | [.ag [.es E,.is R,.rs M]]=>some ([SzG E M],.rv (.pl (.b (d6 E R M))))
 | _=>none
def d3j (nm:List (Option AV)):Nat × (List MBlk→List SV→Option AR):=(34,n8 EL none nm [PG] c4z)
def c3t (E:List Ev) (M:List (List Int)) (t c:Nat):PLoop:=⟨Nat,fun o=>{ X:=Nat,inv:=fun j=>j≤E.length∧o < M.length∧p7 (a7y E M o) j=true,slots:=fun j=>[(t,.i .i64 (j:Int)),(c,.i .i64 (a5d E o j))],mem:=fun _=>[],mu:=fun j=>E.length - j,kill:=[] }⟩
theorem fo34:o8 Tryz.prog 34:=⟨Tryz.f34,Tryz.func34,by kernel_rfl,by kernel_rfl⟩
def q34D (E:List Ev) (R:List Int) (M:List (List Int)):Prop:=n9 (({ calls:=[kLsd (nmG E R M),kSrc (nmG E R M),kE1 84 wrE,kPos 66 []],loops:=[(0,.of (lAl (a1j E R) E.length 3)),(2,.of (lAl (a40 E M) M.length 4)),(4,c3t E M 6 5)] }:Kit)).tab Tryz.f34 [grV E R M] (grM E R M) (l8 (.b (d6 E R M)))
theorem d59 (E:List Ev) (R:List Int) (M:List (List Int)):q34D E R M=(
 let a:=decide ((↑E.length:Int) > (64:Int)) || (↑R.length:Int) !=(↑E.length:Int) || decide ((↑M.length:Int) > (8:Int))
 let b:=decide ((↑E.length:Int) > (64:Int)) || (↑R.length:Int) !=(↑E.length:Int)
 let c:=(↑E.length:Int)
 let d:=E.length=E.length∧R.length=R.length∧M.length=M.length
 let e:=c > (64:Int)
 let f:=(↑M.length:Int)
 let g:=decide e || (↑R.length:Int) !=c || decide (f > (8:Int)) || !a5y E M.length
 let h:=c3t E M (6:Nat) (5:Nat)
 let j:=(0:Int)
 let k:=PLoop.of (lAl (a1j E R) E.length (3:Nat))
 let l:=PLoop.of (lAl (a40 E M) M.length (4:Nat))
 (a=false→E.length=E.length)∧(a=false→R.length=R.length)∧(a=false→M.length=M.length)∧(a=false→nE E)∧(a=false→nI R)∧(a=false→nR M)∧(a=false→E.length≤(1099511627776:Nat))∧(g=true→false=d6 E R M)∧(g=false→∃(x:PUnit),(∃(x:Nat),(x≤E.length∧p7 (a1j E R) x=true)∧(j=(↑x:Int)∧True)∧True)∧∀(x_1:Nat),x_1≤E.length∧p7 (a1j E R) x_1=true→(decide ((↑x_1:Int) < c)=true→E.length=E.length∧R.length=R.length∧M.length=M.length∧nE E∧nI R∧nR M∧((j≤(↑x_1:Int)∧(↑x_1:Int) < c)∧R.length=E.length)∧((!a1j E R (↑x_1:Int))=true→false=d6 E R M)∧((!a1j E R (↑x_1:Int))=false→∃(x_2:Nat),(x_2≤E.length∧p7 (a1j E R) x_2=true)∧(k.ann x).mu x_2 < (k.ann x).mu x_1∧(d∧True∧IntKind.i64.wrap ((↑x_1:Int) + (1:Int))=(↑x_2:Int)∧True∧E.length=E.length∧c=c∧decide e=decide e∧decide e=decide e∧b=b∧b=b∧a=a∧a=a∧false=false∧True)∧eqA E.length (g9 E)∧eqA R.length (j6 R)∧eqA M.length (l4 M)∧d∧True))∧(decide ((↑x_1:Int) < c)=false→∃(x:PUnit),(∃(x:Nat),(x≤M.length∧p7 (a40 E M) x=true)∧(j=(↑x:Int)∧True)∧True)∧∀(x_2:Nat),x_2≤M.length∧p7 (a40 E M) x_2=true→(decide ((↑x_2:Int) < f)=true→∃(x_3:Nat),(∃(x:Nat),(x≤E.length∧x_3 < M.length∧p7 (a7y E M (↑x_3:Int)) x=true)∧(j=(↑x:Int)∧j=a5d E (↑x_3:Int) x∧True)∧True)∧∀(x_4:Nat),x_4≤E.length∧x_3 < M.length∧p7 (a7y E M (↑x_3:Int)) x_4=true→(decide ((↑x_4:Int) < c)=true→(j≤(↑x_4:Int)∧(↑x_4:Int) < c)∧x_4 < E.length∧(wrE (b8 e0 E x_4)=true→j≤(↑x_4:Int)∧(↑x_4:Int) < c)∧(wrE (b8 e0 E x_4)=true→x_4 < E.length)∧((wrE (b8 e0 E x_4) && (b8 e0 E x_4).ob ==(↑x_2:Int))=true→(j≤(↑x_2:Int)∧(↑x_2:Int) < f)∧x_2
 < M.length∧(b8 [] M x_2).length=(b8 [] M x_2).length∧(mkN (fun(i:Nat)=>b8 j (b8 [] M x_2) i) (b8 [] M x_2).length).length≤(1099511627776:Nat)∧(decide (a75 (mkN (fun(i:Nat)=>b8 j (b8 [] M x_2) i) (b8 [] M x_2).length) (↑x_4:Int) < j)=true→false=d6 E R M)∧(decide (a75 (mkN (fun(i:Nat)=>b8 j (b8 [] M x_2) i) (b8 [] M x_2).length) (↑x_4:Int) < j)=false→∃(x:Nat),(x≤E.length∧x_3 < M.length∧p7 (a7y E M (↑x_3:Int)) x=true)∧(h.ann x_3).mu x < (h.ann x_3).mu x_4∧(d∧True∧(↑x_1:Int)=(↑x_1:Int)∧(↑x_2:Int)=(↑x_2:Int)∧IntKind.i64.wrap (a5d E (↑x_3:Int) x_4 + (1:Int))=a5d E (↑x_3:Int) x∧IntKind.i64.wrap ((↑x_4:Int) + (1:Int))=(↑x:Int)∧True∧E.length=E.length∧c=c∧decide e=decide e∧decide e=decide e∧b=b∧b=b∧a=a∧a=a∧false=false∧(↑x_1:Int)=(↑x_1:Int)∧True∧E.length=E.length∧c=c∧false=false∧(↑x_2:Int)=(↑x_2:Int)∧True∧M.length=M.length∧f=f∧true=true∧True)∧eqA E.length (g9 E)∧eqA R.length (j6 R)∧eqA M.length (l4 M)∧d∧True))∧((wrE (b8 e0 E x_4) && (b8 e0 E x_4).ob ==(↑x_2:Int))=false→∃(x:Nat),(x≤E.length∧x_3 < M.length∧p7 (a7y E M (↑x_3:Int)) x=true)∧(h.ann x_3).mu x < (h.ann x_3).mu x_4∧(d∧True∧(↑x_1:Int)=(↑x_1:Int)∧(↑x_2:Int)=(↑x_2:Int)∧a5d E (↑x_3:Int) x_4=a5d E (↑x_3:Int) x∧IntKind.i64.wrap ((↑x_4:Int) + (1:Int))=(↑x:Int)∧True∧E.length=E.length∧c=c∧decide e=decide e∧decide e=decide e∧b=b∧b=b∧a=a∧a=a∧false=false∧(↑x_1:Int)=(↑x_1:Int)∧True∧E.length=E.length∧c=c∧false=false∧(↑x_2:Int)=(↑x_2:Int)∧True∧M.length=M.length∧f=f∧true=true∧True)∧eqA E.length (g9 E)∧eqA R.length (j6 R)∧eqA M.length (l4
 M)∧d∧True))∧(decide ((↑x_4:Int) < c)=false→(j≤(↑x_2:Int)∧(↑x_2:Int) < f)∧x_2 < M.length∧(((↑(b8 [] M x_2).length:Int) !=a5d E (↑x_3:Int) x_4)=true→false=d6 E R M)∧(((↑(b8 [] M x_2).length:Int) !=a5d E (↑x_3:Int) x_4)=false→∃(x_5:Nat),(x_5≤M.length∧p7 (a40 E M) x_5=true)∧(l.ann x).mu x_5 < (l.ann x).mu x_2∧(d∧True∧(↑x_1:Int)=(↑x_1:Int)∧IntKind.i64.wrap ((↑x_2:Int) + (1:Int))=(↑x_5:Int)∧True∧E.length=E.length∧c=c∧decide e=decide e∧decide e=decide e∧b=b∧b=b∧a=a∧a=a∧false=false∧(↑x_1:Int)=(↑x_1:Int)∧True∧E.length=E.length∧c=c∧false=false∧True)∧eqA E.length (g9 E)∧eqA R.length (j6 R)∧eqA M.length (l4 M)∧d∧True)))∧(decide ((↑x_2:Int) < f)=false→true=d6 E R M)))):=by kernel_rfl
theorem v34 (E:List Ev) (R:List Int) (M:List (List Int)) (h:SzG E M):q34D E R M:=by
 rw[d59]
 have hL:E.length≤1099511627776:=h.1
 have hrow:M.length≤8→∀ o,o < M.length→(b8 [] M o).length≤1099511627776:=fun h8 o ho=>h.2 h8 _ (by rw[s9 [] M _ ho]; exact z2r ho)
 simp only[eq_self,true_and,and_true,z0p,imp_self,m5,n5,o0,g8,i9,PLoop.of,s5,AV.len,j5,z0v,j8,l5,l6,m6,m7,m8,lAl,c3t]
 refine⟨fun _=>hL,fun h1=>?_,fun h1=>?_⟩
 ·cases hv:d6 E R M with
  | false=>rfl
  | true =>
   exfalso
   simp only[d6,z0d,z1p] at hv
   obtain⟨⟨⟨⟨⟨a1,a2⟩,a3⟩,a4⟩,a5⟩,a6⟩:=hv
   simp[a4,a2] at h1
   omega
 have hh:E.length≤64∧R.length=E.length∧M.length≤8∧a5y E M.length=true:=by
  simp at h1
  refine⟨?_,?_,?_,?_⟩ <;> first | omega | exact h1.2
 obtain⟨a1,a2,a3,a4⟩:=hh
 have hrow:=hrow a3
 have hv:d6 E R M=(p7 (a1j E R) E.length && p7 (a40 E M) M.length):=by simp[d6,a1,a2,a3,a4]
 refine⟨(),⟨0,⟨by omega,rfl⟩,rfl⟩,fun i hi=>⟨fun hlt=>?_,fun hlt=>?_⟩⟩
 ·have hi2:i < E.length:=by have:=z0e hlt; omega
  refine⟨⟨⟨by omega,by omega⟩,a2⟩,fun hs=>?_,fun hs=>⟨i + 1,⟨by omega,?_⟩,by omega,wrS (n:=E.length) hi2 hL⟩⟩
  ·rw[hv,a1e (j:=i) hi2 (by simpa using hs)]; rfl
  ·simp only[p7,hi.2,z1j]; simpa using hs
 have hi2:i=E.length:=by have:=z0l hlt; omega
 have hsrc:p7 (a1j E R) E.length=true:=by have:=hi.2; rwa [hi2] at this
 rw[hv,hsrc,z1j]
 refine⟨(),⟨0,⟨by omega,rfl⟩,rfl⟩,fun o ho=>⟨fun hlo=>?_,fun hlo=>?_⟩⟩
 ·have ho2:o < M.length:=by have:=z0e hlo; omega
  refine⟨o,⟨0,⟨by omega,ho2,rfl⟩,rfl,rfl⟩,fun j hj=>⟨fun hlj=>?_,fun hlj=>?_⟩⟩
  ·have hj2:j < E.length:=by have:=z0e hlj; omega
   have e:a7y E M o j = !((wrE (b8 e0 E j) && (b8 e0 E j).ob == o) && decide (a75 (b8 [] M o) j < 0)):=rfl
   have ew:y9 E o j=(wrE (b8 e0 E j) && (b8 e0 E j).ob == o):=rfl
   have hc:=c9e E o j
   have hw1:=wrS (n:=E.length) hj2 hL
   refine⟨⟨by omega,by omega⟩,hj2,fun _=>⟨by omega,by omega⟩,fun _=>hj2,fun hw=>⟨⟨by omega,by omega⟩,ho2,hrow o ho2,fun hp=>?_,fun hp=>⟨j + 1,⟨by omega,ho2,?_⟩,by omega,?_,hw1⟩⟩,fun hw=>⟨j + 1,⟨by omega,ho2,?_⟩,by omega,?_,hw1⟩⟩
   ·refine(a1e ho2 ?_).symm
    rw[a40,a1e (j:=j) hj2 (by rw[e,hw,hp]; rfl)]; rfl
   ·simp only[p7,hj.2.2,z1j]; rw[e,hp]; simp
   ·simp only[a5d]; rw[ew,hw,z0f]; exact a7h (by omega) (by omega)
   ·simp only[p7,hj.2.2,z1j]; rw[e,hw]; rfl
   ·simp only[a5d]; rw[ew,hw,z0m]
  ·have hj2:j=E.length:=by have:=z0l hlj; omega
   have hall:p7 (a7y E M o) E.length=true:=by have:=hj.2.2; rwa [hj2] at this
   have e:a40 E M o=(((b8 [] M o).length:Int) == a5d E o E.length):=by rw[a40,hall,z1j]; rfl
   rw[hj2]
   refine⟨⟨by omega,by omega⟩,ho2,fun hc=>?_,fun hc=>⟨o + 1,⟨by omega,?_⟩,by omega,wrS (n:=M.length) ho2 (by omega)⟩⟩
   ·refine(a1e ho2 ?_).symm
    rw[e]; simpa using hc
   ·simp only[p7,ho.2,z1j]; rw[e]; simpa using hc
 ·have ho2:o=M.length:=by have:=z0l hlo; omega
  have:=ho.2
  rw[ho2] at this
  exact this.symm
theorem n34 (nm:List (Option AV)):CallOk Tryz.prog [] 34 (n8 EL none nm [PG] c4z):=y5 Tryz.func34 fo34 fun av pre rv h=>by
 unfold c4z at h; split at h <;> cases h
 exact⟨⟨rfl,fun t a e=>by cases e <;> exact z0k _ _⟩,fun hp=>⟨_,v34 _ _ _ (hp _ (.head _)),rfl,(m9 (n82 _) (m9 (n83 _) (m9 (n84 _) (m9 (n66 _) v4)))),v5⟩⟩
def relE (err N:Int):Nat→SV:=fun n=>.tup [b3p N n,.i .i64 err]
def b7b (v:Bool) (N:Int) (l:List Pq):QV:=.rv (.sl (relE (bif v then 0 else 1) (bif v then N else 0)) (.ps (o9 v l)))
theorem a25 {E:List Ev} {R:List Int} {M:List (List Int)} (hv:d6 E R M=true) (hs:SzG E M):GOk E R M∧E.length≤64:=by
 simp only[d6,z0d,z1p] at hv
 obtain⟨⟨⟨⟨⟨a1,a2⟩,a3⟩,a4⟩,a5⟩,a6⟩:=hv
 have hev:∀ i:Int,0≤i→i < E.length→a6j E M.length i=true:=fun i h0 h1=>by
  have:=a2o.1 a4 i.toNat (by omega)
  rwa [z1s h0] at this
 have hsr:∀ i:Int,0≤i→i < E.length→a1j E R i=true:=fun i h0 h1=>by
  have:=a2o.1 a5 i.toNat (by omega)
  rwa [z1s h0] at this
 have hin:∀ j:Int,0≤j→j < E.length→inA R j < E.length∧(rdE (evA E j)=true→inA R j = -1∨(0≤inA R j∧inA R j < E.length)):=fun j h0 h1=>by
  have h:=hsr j h0 h1
  unfold a1j at h
  cases hr:rdE (evA E j)
  ·rw[hr] at h
   simp at h
   exact⟨by omega,fun h=>by cases h⟩
  ·rw[hr] at h
   by_cases hb:inA R j < 0∨inA R j ≥ E.length
   ·have e:(decide (inA R j < 0) || decide (inA R j ≥ E.length))=true:=by simpa using hb
    simp only[Bool.not_true,z0m,e,z0f,beq_iff_eq] at h
    exact⟨by omega,fun _=>.inl h⟩
   ·exact⟨by omega,fun _=>.inr ⟨by omega,by omega⟩⟩
 refine⟨⟨⟨hs.2 a3,fun i h0 h1 hw=>?_⟩,⟨a2,fun j h0 h1=>(hin j h0 h1).1⟩,hs.1,fun j h0 h1=>(hin j h0 h1).2⟩,a1⟩
 have h:=hev i h0 h1
 simp only[a6j,z0d,hw,Bool.or_true,z1j,z0x,z1m] at h
 have hv:=h.1.1.1.1.1
 simp only[n7,z0d] at hv
 have ho:a17 (evA E i)=true:=hv.1.1.1.1.1.1.1.1.2
 have hk:(evA E i).k=2∨(evA E i).k=5:=by simpa [wrE] using hw
 refine⟨?_,by omega⟩
 rcases hk with hk | hk <;> simp[a17,hk,t6] at ho <;> omega
def a4h (fn:GF):SpG:=fun
 | [.ag [.es E,.is R,.rs M]]=>some ([SzG E M],b7b (d6 E R M) E.length (b9 E.length (fn E R M)))
 | _=>none
def a9w (E:List Ev) (j:Nat):Int→Option Int:=fun a=>bif a1f a E j == 0 then none else some (a1f a E j)
def lVe (E:List Ev) (m t r:Nat):LAnn:=s5 E.length t (fun j=>p7 (a6j E m) j=true) (fun j=>[(r,.mapi .i64 (some .i64) (a9w E j))]) []
def sVe:SpG:=fun
 | [.lf (.es E),.lf (.i m)]=>some ([L40 E.length∧0≤m],.rv (.pl (.b (a5y E m.toNat))))
 | _=>none
def kVe (nm:List (Option AV)):Nat × (List MBlk→List SV→Option AR):=(79,n8 EL gbT nm [.lf .es,.lf .i] sVe)
theorem c8r (E:List Ev) (j:Nat) (a:Int):a10 (a9w E j a)=a1f a E j:=by
 unfold a9w
 cases h:a1f a E j == 0
 ·rfl
 ·simp only[z0f,a10]; simp at h; exact h.symm
theorem c36 {E:List Ev} {j:Nat} (hj:j < 1099511627776) (x:Int):(bif x == (b8 e0 E j).ag then some (IntKind.i64.wrap (a1f (b8 e0 E j).ag E j + 1)) else a9w E j x)=a9w E (j + 1) x:=by
 have h5:=b7w (b8 e0 E j).ag E j
 cases h:x == (b8 e0 E j).ag
 ·have h2:((b8 e0 E j).ag == x)=false:=by
   have:x≠(b8 e0 E j).ag:=by simpa using h
   simpa using fun e=>this e.symm
  simp only[z0m,a9w,a1f,h2]
 ·have h2:x=(b8 e0 E j).ag:=by simpa using h
  subst h2
  have h3:(a1f (b8 e0 E j).ag E j + 1 == 0)=false:=by simp; omega
  simp only[z0f,a9w,a1f,beq_self_eq_true,h3,z0m]
  rw[a7h (by omega) (by omega)]
theorem fo79:o8 Tryz.prog 79:=⟨Tryz.f79,Tryz.func79,by kernel_rfl,by kernel_rfl⟩
def q79D (E:List Ev) (m:Int):Prop:=n9 (({ g:=true,calls:=[kVE,kE1 80 rdE,kE1 81 wrE],loops:=[(0,.of (lVe E m.toNat 11 2))] }:Kit)).tab Tryz.f79 [.sl 1 E.length,.i .i64 m] [tbl,.arr E.length (g9 E)] (l8 (.b (a5y E m.toNat)))
theorem d5w (E:List Ev) (m:Int):q79D E m=(
 let a:=PLoop.of (lVe E m.toNat (11:Nat) (2:Nat))
 let b:=(↑E.length:Int)
 let c:=a6j E m.toNat
 ∃(x:PUnit),(∃(x:Nat),(x≤E.length∧p7 c x=true)∧((0:Int)=(↑x:Int)∧True)∧(∀(x_1:Int),none=a9w E x x_1)∧True)∧∀(x_1:Nat),x_1≤E.length∧p7 c x_1=true→(decide ((↑x_1:Int) < b)=true→((0:Int)≤(↑x_1:Int)∧(↑x_1:Int) < b)∧x_1 < E.length∧some (l9 [] (match g7 ((a.ann x).mem x_1) (0:Nat) with | some v=>v | none=>l9 (a.ann x).kill tbl))=some tbl∧((!n7 (b8 e0 E x_1) || (b8 e0 E x_1).k ==(3:Int) || (b8 e0 E x_1).k ==(4:Int) || (b8 e0 E x_1).en !=(-1:Int) || (b8 e0 E x_1).ix !=a10 (a9w E x_1 (b8 e0 E x_1).ag))=true→false=a5y E m.toNat)∧((!n7 (b8 e0 E x_1) || (b8 e0 E x_1).k ==(3:Int) || (b8 e0 E x_1).k ==(4:Int) || (b8 e0 E x_1).en !=(-1:Int) || (b8 e0 E x_1).ix !=a10 (a9w E x_1 (b8 e0 E x_1).ag))=false→(((rdE (b8 e0 E x_1) || wrE (b8 e0 E x_1)) && decide ((b8 e0 E x_1).ob ≥ m))=true→false=a5y E m.toNat)∧(((rdE (b8 e0 E x_1) || wrE (b8 e0 E x_1)) && decide ((b8 e0 E x_1).ob ≥ m))=false→∃(x_2:Nat),(x_2≤E.length∧p7 c x_2=true)∧(a.ann x).mu x_2 < (a.ann x).mu x_1∧(E.length=E.length∧m=m∧True∧True∧E.length=E.length∧b=b∧IntKind.i64.wrap ((↑x_1:Int) + (1:Int))=(↑x_2:Int)∧True)∧eqT∧eqA E.length (g9 E)∧(∀(x:Int),(bif x ==(b8 e0 E x_1).ag then some (IntKind.i64.wrap (a10 (a9w E x_1 (b8 e0 E x_1).ag) + (1:Int))) else a9w E x_1 x)=a9w E x_2 x)∧True)))∧(decide ((↑x_1:Int) < b)=false→true=a5y E m.toNat)):=by kernel_rfl
theorem v79 (E:List Ev) (m:Int) (h:L40 E.length∧0≤m):q79D E m:=by
 rw[d5w]
 have hL:E.length≤1099511627776:=h.1
 have hm:(m.toNat:Int)=m:=z1s h.2
 simp only[eq_self,true_and,and_true,z0p,imp_self,m5,n5,o0,g8,i9,PLoop.of,s5,AV.len,j5,z0v,j8,l5,l6,m6,m7,m8,lVe]
 refine⟨(),⟨0,⟨by omega,rfl⟩,rfl,fun _=>rfl⟩,fun j hj=>⟨fun hlt=>?_,fun hlt=>?_⟩⟩
 ·have h1:j < E.length:=by have:=z0e hlt; omega
  have e:a6j E m.toNat j=(n7 (b8 e0 E j) && (b8 e0 E j).k != 3 && (b8 e0 E j).k != 4 && (b8 e0 E j).en == -1 && (b8 e0 E j).ix == a1f (b8 e0 E j).ag E j && !((rdE (b8 e0 E j) || wrE (b8 e0 E j)) && decide ((b8 e0 E j).ob ≥ (m.toNat:Int)))):=rfl
  rw[hm] at e
  simp only[c8r]
  refine⟨⟨by omega,by omega⟩,h1,rfl,fun h2=>?_,fun h2=>⟨fun h3=>?_,fun h3=>⟨j + 1,⟨by omega,?_⟩,by omega,wrS (n:=E.length) h1 hL,fun x=>c36 (by omega) x⟩⟩⟩
  ·refine(a1e h1 ?_).symm
   rw[e]; grind
  ·refine(a1e h1 ?_).symm
   rw[e,h3]; simp
  ·simp only[p7,hj.2,z1j]
   rw[e,h3]; grind
 ·have h1:j=E.length:=by have:=z0l hlt; omega
  have:=hj.2
  rw[h1] at this
  exact this.symm
theorem n79 (nm:List (Option AV)):CallOk Tryz.prog GL 79 (n8 EL gbT nm [.lf .es,.lf .i] sVe):=a4r Tryz.func79 fo79 fun av pre rv h=>by
 unfold sVe at h; split at h <;> cases h
 exact⟨⟨rfl,fun t a e=>by cases e <;> exact z0k _ _⟩,fun hp=>⟨_,v79 _ _ (hp _ (.head _)),rfl,(m9 (n123 _) (m9 (a0y (n80 _)) (m9 (a0y (n81 _)) v4))),v5⟩⟩
def a20 (E:List Ev):Nat→Int
 | 0=>0
 | j + 1=>bif wrE (evA E j) then a20 E j + 1 else a20 E j
def a27 (L:List Int):Int→Option Int:=fun a=>bif L.contains a then some 1 else none
def t7 (M:List (List Int)):Nat→List Int
 | 0=>[]
 | o + 1=>t7 M o ++ x5 M o
def a02 (E:List Ev) (o:Int):List Int→List Int→Bool
 | _,[]=>true
 | L,x :: r=>decide (0≤x) && decide (x < E.length) && !L.contains x && wrE (evA E x) && (evA E x).ob == o && a02 E o (L ++ [x]) r
def a1i (E:List Ev) (M:List (List Int)):Nat→Bool
 | 0=>true
 | o + 1=>a1i E M o && a02 E o (t7 M o) (x5 M o)
def lV1 (E:List Ev) (R:List Int) (t c:Nat):LAnn where
 X:=Nat
 inv:=fun j=>j≤E.length∧p7 (a1j E R) j=true
 slots:=fun j=>[(t,.i .i64 (j:Int)),(c,.i .i64 (a20 E j))]
 mem:=fun _=>[]
 mu:=fun j=>E.length - j
 kill:=[]
def lV2 (E:List Ev) (M:List (List Int)) (t r:Nat):LAnn:=s5 M.length t (fun o=>a1i E M o=true) (fun o=>[(r,.mapi .i64 none (a27 (t7 M o)))]) []
def lV3 (E:List Ev) (M:List (List Int)) (t r:Nat):PLoop:=⟨Nat,fun o=>{ X:=Nat,inv:=fun q=>q≤(x5 M o).length∧o < M.length∧a02 E o (t7 M o) ((x5 M o).take q)=true,slots:=fun q=>[(t,.i .i64 (q:Int))],mem:=fun q=>[(r,.mapi .i64 none (a27 (t7 M o ++ (x5 M o).take q)))],mu:=fun q=>(x5 M o).length - q,kill:=[] }⟩
theorem b1v {L:List Int}:∀ {W:List Int},L.Nodup→(∀ x∈L,x∈W)→W.length≤L.length→∀ x∈W,x∈L:=by
 induction L with
 | nil=>intro W _ _ hl x hx; cases W with
  | nil=>cases hx
  | cons y r=>simp at hl
 | cons a L ih =>
  intro W hn hs hl x hx
  rw[z3q] at hn
  by_cases e:x=a
  ·subst e; exact z1h
  ·refine z0w _ (ih (W:=W.erase a) hn.2 (fun y hy=>?_) ?_ x ((List.mem_erase_of_ne e).2 hx))
   ·exact(List.mem_erase_of_ne (fun h:y=a=>hn.1 (by rw[← h]; exact hy))).2 (hs y (z0w _ hy))
   ·rw[List.length_erase_of_mem (hs a z1h)]
    simp at hl; omega
theorem b0g {L:List Int}:∀ {W:List Int},L.Nodup→(∀ x∈L,x∈W)→L.length≤W.length:=by
 induction L with
 | nil=>intro W _ _; simp
 | cons a L ih =>
  intro W hn hs
  rw[z3q] at hn
  have h1:=ih (W:=W.erase a) hn.2 (fun y hy=>(List.mem_erase_of_ne (fun h:y=a=>hn.1 (by rw[← h]; exact hy))).2 (hs y (z0w _ hy)))
  have h2:=hs a z1h
  rw[List.length_erase_of_mem h2] at h1
  have h3:0 < W.length:=List.length_pos_of_mem h2
  simp; omega
theorem c4j {W:List Int}:∀ {r:List Int},W.Nodup→(∀ x∈W,x∈r)→r.length≤W.length→r.Nodup:=by
 induction W with
 | nil=>intro r _ _ hl; cases r with
  | nil=>exact List.nodup_nil
  | cons y r=>simp at hl
 | cons a W ih =>
  intro r hn hs hl
  have hall:=b1v hn hs hl
  rw[z3q] at hn
  have ha:=hs a z1h
  have hlen:=List.length_erase_of_mem ha
  have hsub:∀ x∈W,x∈r.erase a:=fun x hx=>(List.mem_erase_of_ne (fun h:x=a=>hn.1 (by rw[← h]; exact hx))).2 (hs x (z0w _ hx))
  have hl2:(r.erase a).length≤W.length:=by simp at hl; omega
  have h1:=ih hn.2 hsub hl2
  have h2:=b1v hn.2 hsub hl2
  exact(List.perm_cons_erase ha).nodup_iff.2 (z3q.2 ⟨fun h=>hn.1 (h2 a h),h1⟩)
def wrL (E:List Ev):Nat→List Int
 | 0=>[]
 | j + 1=>bif wrE (evA E j) then wrL E j ++ [(j:Int)] else wrL E j
def wrO (E:List Ev) (o:Int):Nat→List Int
 | 0=>[]
 | j + 1=>bif y9 E o j then wrO E o j ++ [(j:Int)] else wrO E o j
theorem b25 {E:List Ev} {x:Int}:∀ {j:Nat},x∈wrL E j↔0≤x∧x < j∧wrE (evA E x)=true:=by
 intro j
 induction j with
 | zero=>simp[wrL]; omega
 | succ j ih =>
  simp only[wrL]
  cases h:wrE (evA E j)
  ·simp only[z0m,ih]
   constructor
   ·rintro ⟨a,b,c⟩; exact⟨a,by omega,c⟩
   ·rintro ⟨a,b,c⟩
    refine⟨a,?_,c⟩
    have:x≠j:=fun e=>by subst e; rw[h] at c; cases c
    omega
  ·simp only[z0f,z0n,z0r,ih]
   constructor
   ·rintro (⟨a,b,c⟩ | rfl)
    ·exact⟨a,by omega,c⟩
    ·exact⟨by omega,by omega,h⟩
   ·rintro ⟨a,b,c⟩
    by_cases e:x=j
    ·exact .inr e
    ·exact .inl ⟨a,by omega,c⟩
theorem c5b {E:List Ev}:∀ {j:Nat},(wrL E j).Nodup:=by
 intro j
 induction j with
 | zero=>simp[wrL]
 | succ j ih =>
  simp only[wrL]
  cases h:wrE (evA E j)
  ·exact ih
  ·simp only[z0f]
   rw[List.nodup_append]
   refine⟨ih,by simp,fun a ha b hb=>?_⟩
   have:=(b25.1 ha).2.1
   simp at hb
   omega
theorem d24 {E:List Ev}:∀ {j:Nat},((wrL E j).length:Int)=a20 E j:=by
 intro j
 induction j with
 | zero=>rfl
 | succ j ih =>
  simp only[wrL,a20]
  cases h:wrE (evA E j)
  ·exact ih
  ·simp only[z0f,z1b,z2i]; omega
theorem a4w {E:List Ev} {o x:Int}:∀ {j:Nat},x∈wrO E o j↔0≤x∧x < j∧y9 E o x=true:=by
 intro j
 induction j with
 | zero=>simp[wrO]; omega
 | succ j ih =>
  simp only[wrO]
  cases h:y9 E o j
  ·simp only[z0m,ih]
   constructor
   ·rintro ⟨a,b,c⟩; exact⟨a,by omega,c⟩
   ·rintro ⟨a,b,c⟩
    refine⟨a,?_,c⟩
    have:x≠j:=fun e=>by subst e; rw[h] at c; cases c
    omega
  ·simp only[z0f,z0n,z0r,ih]
   constructor
   ·rintro (⟨a,b,c⟩ | rfl)
    ·exact⟨a,by omega,c⟩
    ·exact⟨by omega,by omega,h⟩
   ·rintro ⟨a,b,c⟩
    by_cases e:x=j
    ·exact .inr e
    ·exact .inl ⟨a,by omega,c⟩
theorem b0v {E:List Ev} {o:Int}:∀ {j:Nat},(wrO E o j).Nodup:=by
 intro j
 induction j with
 | zero=>simp[wrO]
 | succ j ih =>
  simp only[wrO]
  cases h:y9 E o j
  ·exact ih
  ·simp only[z0f]
   rw[List.nodup_append]
   refine⟨ih,by simp,fun a ha b hb=>?_⟩
   have:=(a4w.1 ha).2.1
   simp at hb
   omega
theorem d25 {E:List Ev} {o:Int}:∀ {j:Nat},((wrO E o j).length:Int)=a5d E o j:=by
 intro j
 induction j with
 | zero=>rfl
 | succ j ih =>
  simp only[wrO,a5d]
  cases h:y9 E o j
  ·exact ih
  ·simp only[z0f,z1b,z2i]; omega
theorem c73 {x:Int}:∀ {l:List Int} {i:Int},0≤i→(a81 x l i < 0↔x ∉ l):=by
 intro l
 induction l with
 | nil=>intro i _; simp[a81]
 | cons y r ih =>
  intro i hi
  simp only[a81]
  cases h:y == x
  ·have h2:x≠y:=by
              have:y≠x:=by simpa using h
              exact fun e=>this e.symm
   rw[z0m,ih (by omega)]
   simp[h2]
  ·have h2:y=x:=by simpa using h
   subst h2
   simp; omega
theorem b78 {x:Int} {l:List Int}:a75 l x < 0↔x ∉ l:=c73 (Int.le_refl 0)
theorem a8e {M:List (List Int)} {x:Int}:∀ {m:Nat},x∈t7 M m↔∃ o:Nat,o < m∧x∈x5 M o:=by
 intro m
 induction m with
 | zero=>simp[t7]
 | succ m ih =>
  simp only[t7,z0n,ih]
  constructor
  ·rintro (⟨o,h1,h2⟩ | h)
   ·exact⟨o,by omega,h2⟩
   ·exact⟨m,by omega,h⟩
  ·rintro ⟨o,h1,h2⟩
   by_cases e:o=m
   ·subst e; exact .inr h2
   ·exact .inl ⟨o,by omega,h2⟩
theorem a2u {E:List Ev} {o:Int}:∀ {r L:List Int},a02 E o L r=true↔(∀ x∈r,(0≤x∧x < E.length)∧x ∉ L∧wrE (evA E x)=true∧(evA E x).ob=o)∧r.Nodup:=by
 intro r
 induction r with
 | nil=>intro L; simp[a02]
 | cons x r ih =>
  intro L
  simp only[a02,z0d,z1p,z0x,beq_iff_eq,ih,z3q,z0s,z0n,List.contains_eq_mem,z1m]
  constructor
  ·rintro ⟨⟨⟨⟨⟨h1,h2⟩,h3⟩,h4⟩,h5⟩,h6,h7⟩
   refine⟨fun y hy=>?_,?_,h7⟩
   ·rcases hy with rfl | hy
    ·exact⟨⟨h1,h2⟩,h3,h4,h5⟩
    ·obtain⟨a,b,c⟩:=h6 y hy
     exact⟨a,fun h=>b (.inl h),c⟩
   ·intro hx
    exact(h6 x hx).2.1 (.inr (by simp))
  ·rintro ⟨h1,h2,h3⟩
   obtain⟨a,b,c,d⟩:=h1 x (.inl rfl)
   refine⟨⟨⟨⟨⟨a.1,a.2⟩,b⟩,c⟩,d⟩,fun y hy=>?_,h3⟩
   obtain⟨a',b',c',d'⟩:=h1 y (.inr hy)
   refine⟨a',fun h=>?_,c',d'⟩
   rcases h with h | h
   ·exact b' h
   ·simp at h; subst h; exact h2 hy
theorem a67 {E:List Ev} {M:List (List Int)}:∀ {m:Nat},a1i E M m=true↔∀ o:Nat,o < m→a02 E o (t7 M o) (x5 M o)=true:=by
 intro m
 induction m with
 | zero=>simp[a1i]
 | succ m ih =>
  simp only[a1i,z0d,ih]
  constructor
  ·rintro ⟨h1,h2⟩ o ho
   by_cases e:o=m
   ·subst e; exact h2
   ·exact h1 o (by omega)
  ·intro h
   exact⟨fun o ho=>h o (by omega),h m (by omega)⟩
theorem a8f {E:List Ev} {M:List (List Int)}:∀ {m:Nat},(∀ o:Nat,o < m→a02 E o (t7 M o) (x5 M o)=true)→(t7 M m).Nodup∧∀ x∈t7 M m,x∈wrL E E.length:=by
 intro m
 induction m with
 | zero=>intro _; simp[t7]
 | succ m ih =>
  intro h
  obtain⟨h1,h2⟩:=ih fun o ho=>h o (by omega)
  obtain⟨h3,h4⟩:=a2u.1 (h m (by omega))
  refine⟨?_,fun x hx=>?_⟩
  ·simp only[t7]
   rw[List.nodup_append]
   exact⟨h1,h4,fun a ha b hb e=>(h3 b hb).2.1 (e ▸ ha)⟩
  ·simp only[t7,z0n] at hx
   rcases hx with hx | hx
   ·exact h2 x hx
   ·obtain⟨a,b,c,d⟩:=h3 x hx
    exact b25.2 ⟨a.1,a.2,c⟩
theorem a2x {E:List Ev} {o x:Int}:y9 E o x=true↔wrE (evA E x)=true∧(evA E x).ob=o:=by simp[y9]
theorem c3l {E:List Ev} {M:List (List Int)} {o x:Int}:a7y E M o x=true↔(y9 E o x=true→x∈x5 M o):=by
 simp only[a7y,z0x,Bool.and_eq_false_iff,z1m]
 constructor
 ·rintro (h | h) hw
  ·rw[h] at hw; cases hw
  ·exact Classical.byContradiction fun hn=>h (b78.2 hn)
 ·intro h
  cases hw:y9 E o x
  ·exact .inl rfl
  ·exact .inr fun hn=>b78.1 hn (h hw)
theorem b0j {E:List Ev} {M:List (List Int)} {o:Int}:a40 E M o=true↔(∀ x∈wrO E o E.length,x∈x5 M o)∧(x5 M o).length=(wrO E o E.length).length:=by
 simp only[a40,z0d,beq_iff_eq,a2o,c3l,← d25]
 refine and_congr ⟨fun h x hx=>?_,fun h j hj hw=>h _ (a4w.2 ⟨by omega,by omega,hw⟩)⟩ (by omega)
 obtain⟨a,b,c⟩:=a4w.1 hx
 have:=h x.toNat (by omega)
 rw[z1s a] at this
 exact this c
theorem c2p {E:List Ev} {M:List (List Int)} (hl:∀ j:Int,0≤j→j < E.length→wrE (evA E j)=true→0≤(evA E j).ob∧(evA E j).ob < M.length):(a1i E M M.length && (((t7 M M.length).length:Int) == a20 E E.length))=p7 (a40 E M) M.length:=by
 rw[z3i,z0d,beq_iff_eq,a67,a2o,← d24]
 constructor
 ·rintro ⟨h1,h2⟩ o ho
  obtain⟨n1,n2⟩:=a8f h1
  have hall:=b1v n1 n2 (by omega)
  obtain⟨g1,g2⟩:=a2u.1 (h1 o ho)
  have hin:∀ x∈wrO E o E.length,x∈x5 M o:=fun x hx=>by
   obtain⟨a,b,c⟩:=a4w.1 hx
   obtain⟨c1,c2⟩:=a2x.1 c
   obtain⟨o',ho',hx'⟩:=a8e.1 (hall x (b25.2 ⟨a,b,c1⟩))
   have:=((a2u.1 (h1 o' ho')).1 x hx').2.2.2
   have e:o'=o:=by omega
   rw[e] at hx'
   exact hx'
  refine b0j.2 ⟨hin,?_⟩
  have p1:=b0g (b0v (E:=E) (o:=o) (j:=E.length)) hin
  have p2:=b0g g2 (fun x hx=>a4w.2 ⟨(g1 x hx).1.1,(g1 x hx).1.2,a2x.2 (g1 x hx).2.2⟩)
  omega
 ·intro h
  have key:∀ o:Nat,o < M.length→(x5 M o).Nodup∧∀ x∈x5 M o,x∈wrO E o E.length:=fun o ho=>by
   obtain⟨h1,h2⟩:=b0j.1 (h o ho)
   exact⟨c4j b0v h1 (by omega),b1v b0v h1 (by omega)⟩
  have hg:∀ o:Nat,o < M.length→a02 E o (t7 M o) (x5 M o)=true:=fun o ho=>by
   obtain⟨k1,k2⟩:=key o ho
   refine a2u.2 ⟨fun x hx=>?_,k1⟩
   obtain⟨a,b,c⟩:=a4w.1 (k2 x hx)
   refine⟨⟨a,b⟩,fun hf=>?_,a2x.1 c⟩
   obtain⟨o',ho',hx'⟩:=a8e.1 hf
   obtain⟨_,_,c'⟩:=a4w.1 ((key o' (by omega)).2 x hx')
   have e1:=(a2x.1 c).2
   have e2:=(a2x.1 c').2
   omega
  refine⟨hg,?_⟩
  obtain⟨n1,n2⟩:=a8f hg
  have p1:=b0g n1 n2
  have p2:=b0g (c5b (E:=E) (j:=E.length)) (W:=t7 M M.length) (fun x hx=>by
   obtain⟨a,b,c⟩:=b25.1 hx
   obtain⟨o1,o2⟩:=hl x a b c
   refine a8e.2 ⟨(evA E x).ob.toNat,by omega,?_⟩
   refine(b0j.1 (h (evA E x).ob.toNat (by omega))).1 x (a4w.2 ⟨a,b,a2x.2 ⟨c,by omega⟩⟩))
  omega
theorem c51 {L:List Int} (h:L.Nodup):b2h (a27 L)=L.length:=b7u h fun a=>by
 simp only[a27,List.contains_eq_mem]
 by_cases ha:a∈L <;> simp[ha]
end Go.Proofs.YtaeeaniofljmnaaGreatDoor
