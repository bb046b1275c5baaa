/-
  A part of the proof (HV).
-/
import Derived.Test.YtaeeaniofljmnaaGreatDoorH18
namespace Go.Proofs.YtaeeaniofljmnaaGreatDoor
set_option linter.unusedSimpArgs false
set_option linter.unusedVariables false
open Go Go.Proofs.YtaeeaniofljmnaaGreatDoor.Sx
set_option maxRecDepth 100000
def a2d (E:List Ev) (o:Int) (j:Int):Bool:=wrE (evA E j) && (evA E j).ob == o
def a5l (E:List Ev) (o:Int):Nat→Int
 | 0=>0
 | j + 1=>bif a2d E o j then a5l E o j + 1 else a5l E o j
theorem c91 (E:List Ev) (o:Int):∀ j,0≤a5l E o j∧a5l E o j≤j:=by
 intro j
 induction j with
 | zero=>simp[a5l]
 | succ j ih=>simp only[a5l]; cases a2d E o j <;> simp <;> omega
def a7y (E:List Ev) (M:List (List Int)) (o:Int) (j:Int):Bool:=!(a2d E o j && decide (a4t (w8 M o) j < 0))
def a4d (E:List Ev) (M:List (List Int)) (o:Int):Bool:=t4 (a7y E M o) E.length && ((w8 M o).length:Int) == a5l E o E.length
def b8 (E:List Ev) (R:List Int) (M:List (List Int)):Bool:=
 decide (E.length≤64) && decide (R.length=E.length) && decide (M.length≤8) && a6n E M.length && t4 (a1c E R) E.length && t4 (a4d E M) M.length
def SzG (E:List Ev) (M:List (List Int)):Prop:=L40 E.length∧(M.length≤8→∀ r∈M,L40 r.length)
def c4u:SpG:=fun
 | [.ag [.es E,.is R,.rs M]]=>some ([SzG E M],.rv (.pl (.b (b8 E R M))))
 | _=>none
def c0j (nm:List (Option AV)):Nat × (List MBlk→List SV→Option AR):=(34,n6 EL none nm [PG] c4u)
def c3r (E:List Ev) (M:List (List Int)) (t c:Nat):PLoop:=⟨Nat,fun o=>{ X:=Nat,inv:=fun j=>j≤E.length∧o < M.length∧t4 (a7y E M o) j=true,slots:=fun j=>[(t,.i .i64 (j:Int)),(c,.i .i64 (a5l E o j))],mem:=fun _=>[],mu:=fun j=>E.length - j,kill:=[] }⟩
theorem fo34:o6 Tryz.prog 34:=⟨Tryz.f34,Tryz.func34,by kernel_rfl,by kernel_rfl⟩
def q34D (E:List Ev) (R:List Int) (M:List (List Int)):Prop:=n7 (({ calls:=[kLsd (nmG E R M),kSrc (nmG E R M),kE1 84 wrE,d3t 66 []],loops:=[(0,.of (lAl (a1c E R) E.length 3)),(2,.of (lAl (a4d E M) M.length 4)),(4,c3r E M 6 5)] }:Kit)).tab Tryz.f34 [grV E R M] (grM E R M) (l4 (.b (b8 E R M)))
theorem d5n (E:List Ev) (R:List Int) (M:List (List Int)):q34D E R M=(((decide ((↑E.length:Int) > (64:Int)) || (↑R.length:Int) != (↑E.length:Int) || decide ((↑M.length:Int) > (8:Int)))=false→E.length=E.length)∧((decide ((↑E.length:Int) > (64:Int)) || (↑R.length:Int) != (↑E.length:Int) || decide ((↑M.length:Int) > (8:Int)))=false→R.length=R.length)∧((decide ((↑E.length:Int) > (64:Int)) || (↑R.length:Int) != (↑E.length:Int) || decide ((↑M.length:Int) > (8:Int)))=false→M.length=M.length)∧((decide ((↑E.length:Int) > (64:Int)) || (↑R.length:Int) != (↑E.length:Int) || decide ((↑M.length:Int) > (8:Int)))=false→nE E)∧((decide ((↑E.length:Int) > (64:Int)) || (↑R.length:Int) != (↑E.length:Int) || decide ((↑M.length:Int) > (8:Int)))=false→nI R)∧((decide ((↑E.length:Int) > (64:Int)) || (↑R.length:Int) != (↑E.length:Int) || decide ((↑M.length:Int) > (8:Int)))=false→nR M)∧((decide ((↑E.length:Int) > (64:Int)) || (↑R.length:Int) != (↑E.length:Int) || decide ((↑M.length:Int) > (8:Int)))=false→E.length≤(1099511627776:Nat))∧((decide ((↑E.length:Int) > (64:Int)) || (↑R.length:Int) != (↑E.length:Int) || decide ((↑M.length:Int) > (8:Int)) || !a6n E M.length)=true→false=b8 E R M)∧((decide ((↑E.length:Int) > (64:Int)) || (↑R.length:Int) != (↑E.length:Int) || decide ((↑M.length:Int) > (8:Int)) || !a6n E M.length)=false→∃(x:PUnit),(∃(x:Nat),(x≤E.length∧t4 (a1c E R) x=true) ∧
 ((0:Int)=(↑x:Int)∧True)∧True)∧∀(x_1:Nat),x_1≤E.length∧t4 (a1c E R) x_1=true→(decide ((↑x_1:Int) < (↑E.length:Int))=true→E.length=E.length∧R.length=R.length∧M.length=M.length∧nE E∧nI R∧nR M∧(((0:Int)≤(↑x_1:Int)∧(↑x_1:Int) < (↑E.length:Int))∧R.length=E.length)∧((!a1c E R (↑x_1:Int))=true→false=b8 E R M)∧((!a1c E R (↑x_1:Int))=false→∃(x_2:Nat),(x_2≤E.length∧t4 (a1c E R) x_2=true)∧((PLoop.of (lAl (a1c E R) E.length (3:Nat))).ann x).mu x_2 < ((PLoop.of (lAl (a1c E R) E.length (3:Nat))).ann x).mu x_1∧((E.length=E.length∧R.length=R.length∧M.length=M.length)∧True∧IntKind.i64.wrap ((↑x_1:Int) + (1:Int))=(↑x_2:Int)∧True∧E.length=E.length∧(↑E.length:Int)=(↑E.length:Int)∧decide ((↑E.length:Int) > (64:Int))=decide ((↑E.length:Int) > (64:Int))∧decide ((↑E.length:Int) > (64:Int))=decide ((↑E.length:Int) > (64:Int))∧(decide ((↑E.length:Int) > (64:Int)) || (↑R.length:Int) != (↑E.length:Int))=(decide ((↑E.length:Int) > (64:Int)) || (↑R.length:Int) != (↑E.length:Int))∧(decide ((↑E.length:Int) > (64:Int)) || (↑R.length:Int) != (↑E.length:Int))=(decide ((↑E.length:Int) > (64:Int)) || (↑R.length:Int) != (↑E.length:Int))∧(decide ((↑E.length:Int) > (64:Int)) || (↑R.length:Int) != (↑E.length:Int) || decide ((↑M.length:Int) > (8:Int)))=(decide ((↑E.length:Int) > (64 :
 Int)) || (↑R.length:Int) != (↑E.length:Int) || decide ((↑M.length:Int) > (8:Int)))∧(decide ((↑E.length:Int) > (64:Int)) || (↑R.length:Int) != (↑E.length:Int) || decide ((↑M.length:Int) > (8:Int)))=(decide ((↑E.length:Int) > (64:Int)) || (↑R.length:Int) != (↑E.length:Int) || decide ((↑M.length:Int) > (8:Int)))∧false=false∧True)∧eqA E.length (l5 E)∧eqA R.length (j5 R)∧eqA M.length (j9 M)∧(E.length=E.length∧R.length=R.length∧M.length=M.length)∧True))∧(decide ((↑x_1:Int) < (↑E.length:Int))=false→∃(x:PUnit),(∃(x:Nat),(x≤M.length∧t4 (a4d E M) x=true)∧((0:Int)=(↑x:Int)∧True)∧True)∧∀(x_2:Nat),x_2≤M.length∧t4 (a4d E M) x_2=true→(decide ((↑x_2:Int) < (↑M.length:Int))=true→∃(x_3:Nat),(∃(x:Nat),(x≤E.length∧x_3 < M.length∧t4 (a7y E M (↑x_3:Int)) x=true)∧((0:Int)=(↑x:Int)∧(0:Int)=a5l E (↑x_3:Int) x∧True)∧True)∧∀(x_4:Nat),x_4≤E.length∧x_3 < M.length∧t4 (a7y E M (↑x_3:Int)) x_4=true→(decide ((↑x_4:Int) < (↑E.length:Int))=true→((0:Int)≤(↑x_4:Int)∧(↑x_4:Int) < (↑E.length:Int))∧x_4 < E.length∧(wrE (b6 e0 E x_4)=true→(0:Int)≤(↑x_4:Int)∧(↑x_4:Int) < (↑E.length:Int))∧(wrE (b6 e0 E x_4)=true→x_4 < E.length)∧((wrE (b6 e0 E x_4) && (b6 e0 E x_4).ob == (↑x_2:Int))=true→((0:Int)≤(↑x_2:Int)∧(↑x_2:Int) < (↑M.length:Int)) ∧
 x_2 < M.length∧(b6 [] M x_2).length=(b6 [] M x_2).length∧(mkN (fun(i:Nat)=>b6 (0:Int) (b6 [] M x_2) i) (b6 [] M x_2).length).length≤(1099511627776:Nat)∧(decide (a4t (mkN (fun(i:Nat)=>b6 (0:Int) (b6 [] M x_2) i) (b6 [] M x_2).length) (↑x_4:Int) < (0:Int))=true→false=b8 E R M)∧(decide (a4t (mkN (fun(i:Nat)=>b6 (0:Int) (b6 [] M x_2) i) (b6 [] M x_2).length) (↑x_4:Int) < (0:Int))=false→∃(x:Nat),(x≤E.length∧x_3 < M.length∧t4 (a7y E M (↑x_3:Int)) x=true)∧((c3r E M (6:Nat) (5:Nat)).ann x_3).mu x < ((c3r E M (6:Nat) (5:Nat)).ann x_3).mu x_4∧((E.length=E.length∧R.length=R.length∧M.length=M.length)∧True∧(↑x_1:Int)=(↑x_1:Int)∧(↑x_2:Int)=(↑x_2:Int)∧IntKind.i64.wrap (a5l E (↑x_3:Int) x_4 + (1:Int))=a5l E (↑x_3:Int) x∧IntKind.i64.wrap ((↑x_4:Int) + (1:Int))=(↑x:Int)∧True∧E.length=E.length∧(↑E.length:Int)=(↑E.length:Int)∧decide ((↑E.length:Int) > (64:Int))=decide ((↑E.length:Int) > (64:Int))∧decide ((↑E.length:Int) > (64:Int))=decide ((↑E.length:Int) > (64:Int))∧(decide ((↑E.length:Int) > (64:Int)) || (↑R.length:Int) != (↑E.length:Int))=(decide ((↑E.length:Int) > (64:Int)) || (↑R.length:Int) != (↑E.length:Int))∧(decide ((↑E.length:Int) > (64:Int)) || (↑R.length:Int) != (↑E.length:Int))=(decide ((↑E.length:Int) > (64:Int)) || (↑R.length:Int) != (↑E.length
 : Int))∧(decide ((↑E.length:Int) > (64:Int)) || (↑R.length:Int) != (↑E.length:Int) || decide ((↑M.length:Int) > (8:Int)))=(decide ((↑E.length:Int) > (64:Int)) || (↑R.length:Int) != (↑E.length:Int) || decide ((↑M.length:Int) > (8:Int)))∧(decide ((↑E.length:Int) > (64:Int)) || (↑R.length:Int) != (↑E.length:Int) || decide ((↑M.length:Int) > (8:Int)))=(decide ((↑E.length:Int) > (64:Int)) || (↑R.length:Int) != (↑E.length:Int) || decide ((↑M.length:Int) > (8:Int)))∧false=false∧(↑x_1:Int)=(↑x_1:Int)∧True∧E.length=E.length∧(↑E.length:Int)=(↑E.length:Int)∧false=false∧(↑x_2:Int)=(↑x_2:Int)∧True∧M.length=M.length∧(↑M.length:Int)=(↑M.length:Int)∧true=true∧True)∧eqA E.length (l5 E)∧eqA R.length (j5 R)∧eqA M.length (j9 M)∧(E.length=E.length∧R.length=R.length∧M.length=M.length)∧True))∧((wrE (b6 e0 E x_4) && (b6 e0 E x_4).ob == (↑x_2:Int))=false→∃(x:Nat),(x≤E.length∧x_3 < M.length∧t4 (a7y E M (↑x_3:Int)) x=true)∧((c3r E M (6:Nat) (5:Nat)).ann x_3).mu x < ((c3r E M (6:Nat) (5:Nat)).ann x_3).mu x_4∧((E.length=E.length∧R.length=R.length∧M.length=M.length)∧True∧(↑x_1:Int)=(↑x_1:Int)∧(↑x_2:Int)=(↑x_2:Int)∧a5l E (↑x_3:Int) x_4=a5l E (↑x_3:Int) x∧IntKind.i64.wrap ((↑x_4:Int) + (1:Int))=(↑x:Int)∧True∧E.length=E.length∧(↑E.length:Int)=(↑E.length:Int)
 ∧ decide ((↑E.length:Int) > (64:Int))=decide ((↑E.length:Int) > (64:Int))∧decide ((↑E.length:Int) > (64:Int))=decide ((↑E.length:Int) > (64:Int))∧(decide ((↑E.length:Int) > (64:Int)) || (↑R.length:Int) != (↑E.length:Int))=(decide ((↑E.length:Int) > (64:Int)) || (↑R.length:Int) != (↑E.length:Int))∧(decide ((↑E.length:Int) > (64:Int)) || (↑R.length:Int) != (↑E.length:Int))=(decide ((↑E.length:Int) > (64:Int)) || (↑R.length:Int) != (↑E.length:Int))∧(decide ((↑E.length:Int) > (64:Int)) || (↑R.length:Int) != (↑E.length:Int) || decide ((↑M.length:Int) > (8:Int)))=(decide ((↑E.length:Int) > (64:Int)) || (↑R.length:Int) != (↑E.length:Int) || decide ((↑M.length:Int) > (8:Int)))∧(decide ((↑E.length:Int) > (64:Int)) || (↑R.length:Int) != (↑E.length:Int) || decide ((↑M.length:Int) > (8:Int)))=(decide ((↑E.length:Int) > (64:Int)) || (↑R.length:Int) != (↑E.length:Int) || decide ((↑M.length:Int) > (8:Int)))∧false=false∧(↑x_1:Int)=(↑x_1:Int)∧True∧E.length=E.length∧(↑E.length:Int)=(↑E.length:Int)∧false=false∧(↑x_2:Int)=(↑x_2:Int)∧True∧M.length=M.length∧(↑M.length:Int)=(↑M.length:Int)∧true=true∧True)∧eqA E.length (l5 E)∧eqA R.length (j5 R)∧eqA M.length (j9 M)∧(E.length=E.length∧R.length=R.length∧M.length=M.length)∧True))∧(decide ((↑x_4:Int) < (↑E.length:Int))=false→((0:Int) ≤
 (↑x_2:Int)∧(↑x_2:Int) < (↑M.length:Int))∧x_2 < M.length∧(((↑(b6 [] M x_2).length:Int) != a5l E (↑x_3:Int) x_4)=true→false=b8 E R M)∧(((↑(b6 [] M x_2).length:Int) != a5l E (↑x_3:Int) x_4)=false→∃(x_5:Nat),(x_5≤M.length∧t4 (a4d E M) x_5=true)∧((PLoop.of (lAl (a4d E M) M.length (4:Nat))).ann x).mu x_5 < ((PLoop.of (lAl (a4d E M) M.length (4:Nat))).ann x).mu x_2∧((E.length=E.length∧R.length=R.length∧M.length=M.length)∧True∧(↑x_1:Int)=(↑x_1:Int)∧IntKind.i64.wrap ((↑x_2:Int) + (1:Int))=(↑x_5:Int)∧True∧E.length=E.length∧(↑E.length:Int)=(↑E.length:Int)∧decide ((↑E.length:Int) > (64:Int))=decide ((↑E.length:Int) > (64:Int))∧decide ((↑E.length:Int) > (64:Int))=decide ((↑E.length:Int) > (64:Int))∧(decide ((↑E.length:Int) > (64:Int)) || (↑R.length:Int) != (↑E.length:Int))=(decide ((↑E.length:Int) > (64:Int)) || (↑R.length:Int) != (↑E.length:Int))∧(decide ((↑E.length:Int) > (64:Int)) || (↑R.length:Int) != (↑E.length:Int))=(decide ((↑E.length:Int) > (64:Int)) || (↑R.length:Int) != (↑E.length:Int))∧(decide ((↑E.length:Int) > (64:Int)) || (↑R.length:Int) != (↑E.length:Int) || decide ((↑M.length:Int) > (8:Int)))=(decide ((↑E.length:Int) > (64:Int)) || (↑R.length:Int) != (↑E.length:Int) || decide ((↑M.length:Int) > (8:Int)))∧(decide ((↑E.length:Int) > (64:Int)) || (↑R.length:Int) !=
 (↑E.length:Int) || decide ((↑M.length:Int) > (8:Int)))=(decide ((↑E.length:Int) > (64:Int)) || (↑R.length:Int) != (↑E.length:Int) || decide ((↑M.length:Int) > (8:Int)))∧false=false∧(↑x_1:Int)=(↑x_1:Int)∧True∧E.length=E.length∧(↑E.length:Int)=(↑E.length:Int)∧false=false∧True)∧eqA E.length (l5 E)∧eqA R.length (j5 R)∧eqA M.length (j9 M)∧(E.length=E.length∧R.length=R.length∧M.length=M.length)∧True)))∧(decide ((↑x_2:Int) < (↑M.length:Int))=false→true=b8 E R M)))):=by kernel_rfl
theorem v34 (E:List Ev) (R:List Int) (M:List (List Int)) (h:SzG E M):q34D E R M:=by
 rw[d5n]
 have hL:E.length≤1099511627776:=h.1
 have hrow:M.length≤8→∀ o,o < M.length→(b6 [] M o).length≤1099511627776:=fun h8 o ho=>h.2 h8 _ (by rw[q8 [] M _ ho]; exact z2e ho)
 simp only[eq_self,true_and,and_true,z0o,imp_self,m5,m6,m9,g7,g9,PLoop.of,p9,AV.len,i5,z0s,j4,j7,j8,l7,l8,l9,lAl,c3r]
 refine⟨fun _=>hL,fun h1=>?_,fun h1=>?_⟩
 ·cases hv:b8 E R M with
  | false=>rfl
  | true =>
   exfalso
   simp only[b8,z0d,z1p] at hv
   obtain⟨⟨⟨⟨⟨a1,a2⟩,a3⟩,a4⟩,a5⟩,a6⟩:=hv
   simp[a4,a2] at h1
   omega
 have hh:E.length≤64∧R.length=E.length∧M.length≤8∧a6n E M.length=true:=by
  simp at h1
  refine⟨?_,?_,?_,?_⟩ <;> first | omega | exact h1.2
 obtain⟨a1,a2,a3,a4⟩:=hh
 have hrow:=hrow a3
 have hv:b8 E R M=(t4 (a1c E R) E.length && t4 (a4d E M) M.length):=by simp[b8,a1,a2,a3,a4]
 refine⟨(),⟨0,⟨by omega,rfl⟩,rfl⟩,fun i hi=>⟨fun hlt=>?_,fun hlt=>?_⟩⟩
 ·have hi2:i < E.length:=by have:=z0e hlt; omega
  refine⟨⟨⟨by omega,by omega⟩,a2⟩,fun hs=>?_,fun hs=>⟨i + 1,⟨by omega,?_⟩,by omega,wrS (n:=E.length) hi2 hL⟩⟩
  ·rw[hv,a35 (j:=i) hi2 (by simpa using hs)]; rfl
  ·simp only[t4,hi.2,z1o]; simpa using hs
 have hi2:i=E.length:=by have:=z0m hlt; omega
 have hsrc:t4 (a1c E R) E.length=true:=by have:=hi.2; rwa [hi2] at this
 rw[hv,hsrc,z1o]
 refine⟨(),⟨0,⟨by omega,rfl⟩,rfl⟩,fun o ho=>⟨fun hlo=>?_,fun hlo=>?_⟩⟩
 ·have ho2:o < M.length:=by have:=z0e hlo; omega
  refine⟨o,⟨0,⟨by omega,ho2,rfl⟩,rfl,rfl⟩,fun j hj=>⟨fun hlj=>?_,fun hlj=>?_⟩⟩
  ·have hj2:j < E.length:=by have:=z0e hlj; omega
   have e:a7y E M o j = !((wrE (b6 e0 E j) && (b6 e0 E j).ob == o) && decide (a4t (b6 [] M o) j < 0)):=rfl
   have ew:a2d E o j=(wrE (b6 e0 E j) && (b6 e0 E j).ob == o):=rfl
   have hc:=c91 E o j
   have hw1:=wrS (n:=E.length) hj2 hL
   refine⟨⟨by omega,by omega⟩,hj2,fun _=>⟨by omega,by omega⟩,fun _=>hj2,fun hw=>⟨⟨by omega,by omega⟩,ho2,hrow o ho2,fun hp=>?_,fun hp=>⟨j + 1,⟨by omega,ho2,?_⟩,by omega,?_,hw1⟩⟩,fun hw=>⟨j + 1,⟨by omega,ho2,?_⟩,by omega,?_,hw1⟩⟩
   ·refine(a35 ho2 ?_).symm
    rw[a4d,a35 (j:=j) hj2 (by rw[e,hw,hp]; rfl)]; rfl
   ·simp only[t4,hj.2.2,z1o]; rw[e,hp]; simp
   ·simp only[a5l]; rw[ew,hw,z0g]; exact a4c (by omega) (by omega)
   ·simp only[t4,hj.2.2,z1o]; rw[e,hw]; rfl
   ·simp only[a5l]; rw[ew,hw,z0l]
  ·have hj2:j=E.length:=by have:=z0m hlj; omega
   have hall:t4 (a7y E M o) E.length=true:=by have:=hj.2.2; rwa [hj2] at this
   have e:a4d E M o=(((b6 [] M o).length:Int) == a5l E o E.length):=by rw[a4d,hall,z1o]; rfl
   rw[hj2]
   refine⟨⟨by omega,by omega⟩,ho2,fun hc=>?_,fun hc=>⟨o + 1,⟨by omega,?_⟩,by omega,wrS (n:=M.length) ho2 (by omega)⟩⟩
   ·refine(a35 ho2 ?_).symm
    rw[e]; simpa using hc
   ·simp only[t4,ho.2,z1o]; rw[e]; simpa using hc
 ·have ho2:o=M.length:=by have:=z0m hlo; omega
  have:=ho.2
  rw[ho2] at this
  exact this.symm
theorem n34 (nm:List (Option AV)):CallOk Tryz.prog [] 34 (n6 EL none nm [PG] c4u):=x4 Tryz.func34 fo34 fun av pre rv h=>by
 unfold c4u at h; split at h <;> cases h
 exact⟨⟨rfl,fun t a e=>by cases e <;> exact z0h _ _⟩,fun hp=>⟨_,v34 _ _ _ (hp _ (.head _)),rfl,(m4 (n82 _) (m4 (n83 _) (m4 (n84 _) (m4 (n66 _) t6)))),t7⟩⟩
def relE (err N:Int):Nat→SV:=fun n=>.tup [b3q N n,.i .i64 err]
def a78 (v:Bool) (N:Int) (l:List Pq):QV:=.rv (.sl (relE (bif v then 0 else 1) (bif v then N else 0)) (.ps (i9 v l)))
def d4n:SpG:=fun
 | [.ag [.es E,.is R,.rs M],.st s]=>some ([SzG E M∧L40 s.size],a78 (b8 E R M) E.length (b7 E.length (d6 s E R M)))
 | _=>none
def c9a (nm:List (Option AV)):Nat × (List MBlk→List SV→Option AR):=(50,n6 EL none nm [PG,.st] d4n)
theorem a0f {E:List Ev} {R:List Int} {M:List (List Int)} (hv:b8 E R M=true) (hs:SzG E M):GOk E R M∧E.length≤64:=by
 simp only[b8,z0d,z1p] at hv
 obtain⟨⟨⟨⟨⟨a1,a2⟩,a3⟩,a4⟩,a5⟩,a6⟩:=hv
 have hev:∀ i:Int,0≤i→i < E.length→a61 E M.length i=true:=fun i h0 h1=>by
  have:=a27.1 a4 i.toNat (by omega)
  rwa [z1b h0] at this
 have hsr:∀ i:Int,0≤i→i < E.length→a1c E R i=true:=fun i h0 h1=>by
  have:=a27.1 a5 i.toNat (by omega)
  rwa [z1b h0] at this
 have hin:∀ j:Int,0≤j→j < E.length→inA R j < E.length∧(rdE (evA E j)=true→inA R j = -1∨(0≤inA R j∧inA R j < E.length)):=fun j h0 h1=>by
  have h:=hsr j h0 h1
  unfold a1c at h
  cases hr:rdE (evA E j)
  ·rw[hr] at h
   simp at h
   exact⟨by omega,fun h=>by cases h⟩
  ·rw[hr] at h
   by_cases hb:inA R j < 0∨inA R j ≥ E.length
   ·have e:(decide (inA R j < 0) || decide (inA R j ≥ E.length))=true:=by simpa using hb
    simp only[z2z,z0l,e,z0g,beq_iff_eq] at h
    exact⟨by omega,fun _=>.inl h⟩
   ·exact⟨by omega,fun _=>.inr ⟨by omega,by omega⟩⟩
 refine⟨⟨⟨hs.2 a3,fun i h0 h1 hw=>?_⟩,⟨a2,fun j h0 h1=>(hin j h0 h1).1⟩,hs.1,fun j h0 h1=>(hin j h0 h1).2⟩,a1⟩
 have h:=hev i h0 h1
 simp only[a61,z0d,hw,Bool.or_true,z1o,z0v,z1g] at h
 have hv:=h.1.1.1.1.1
 simp only[q6,z0d] at hv
 have ho:a1k (evA E i)=true:=hv.1.1.1.1.1.1.1.1.2
 have hk:(evA E i).k=2∨(evA E i).k=5:=by simpa [wrE] using hw
 refine⟨?_,by omega⟩
 rcases hk with hk | hk <;> simp[a1k,hk,t8] at ho <;> omega
theorem fo50:o6 Tryz.prog 50:=⟨Tryz.f50,Tryz.func50,by kernel_rfl,by kernel_rfl⟩
def q50D (E:List Ev) (R:List Int) (M:List (List Int)) (s:ByteArray):Prop:=n7 (({ calls:=[c0j (nmG E R M),kUni (nmG E R M)] }:Kit)).tab Tryz.f50 [grV E R M,.v (.string s)] (grM E R M) ((a78 (b8 E R M) E.length (b7 E.length (d6 s E R M))).post EL)
theorem d5t (E:List Ev) (R:List Int) (M:List (List Int)) (s:ByteArray):q50D E R M s=(E.length=E.length∧R.length=R.length∧M.length=M.length∧nE E∧nI R∧nR M∧(E.length≤(1099511627776:Nat)∧(M.length≤(8:Nat)→∀(r:List Int),List.Mem r M→r.length≤(1099511627776:Nat)))∧((!b8 E R M)=true→(AV.ps (i9 (b8 E R M) (b7 (↑E.length:Int) (d6 s E R M)))).len=(0:Nat)∧(((0:Int)=bif b8 E R M then(↑E.length:Int) else(0:Int))∧(AV.ps (i9 (b8 E R M) (b7 (↑E.length:Int) (d6 s E R M)))).len=(0:Nat)∧True)∧((1:Int)=bif b8 E R M then(0:Int) else(1:Int))∧True)∧((!b8 E R M)=false→E.length=E.length∧R.length=R.length∧M.length=M.length∧nE E∧nI R∧nR M∧((((∀(r:List Int),List.Mem r M→r.length≤(1099511627776:Nat))∧∀(i:Int),(0:Int)≤i→i < (↑E.length:Int)→wrE (evA E i)=true→(0:Int)≤(evA E i).ob∧(evA E i).ob < (↑M.length:Int))∧(R.length=E.length∧∀(j:Int),(0:Int)≤j→j < (↑E.length:Int)→inA R j < (↑E.length:Int))∧E.length≤(1099511627776:Nat)∧∀(j:Int),(0:Int)≤j→j < (↑E.length:Int)→rdE (evA E j)=true→inA R j=(-1:Int)∨(0:Int)≤inA R j∧inA R j < (↑E.length:Int))∧E.length≤(64:Nat)∧s.size≤(1099511627776:Nat))∧(AV.ps (b7 (↑E.length:Int) (d6 s E R M))).len=(AV.ps (i9 (b8 E R M) (b7 (↑E.length:Int) (d6 s E R M)))).len∧((∀(j:Nat),j < (AV.ps (i9 (b8 E R M) (b7 (↑E.length:Int) (d6 s E R M)))).len→(b6 ((0:Int),(0
 : Int)) (b7 (↑E.length:Int) (d6 s E R M)) j).fst=(b6 ((0:Int),(0:Int)) (i9 (b8 E R M) (b7 (↑E.length:Int) (d6 s E R M))) j).fst)∧(∀(j:Nat),j < (AV.ps (i9 (b8 E R M) (b7 (↑E.length:Int) (d6 s E R M)))).len→(b6 ((0:Int),(0:Int)) (b7 (↑E.length:Int) (d6 s E R M)) j).snd=(b6 ((0:Int),(0:Int)) (i9 (b8 E R M) (b7 (↑E.length:Int) (d6 s E R M))) j).snd)∧True)∧(((↑E.length:Int)=bif b8 E R M then(↑E.length:Int) else(0:Int))∧(AV.ps (b7 (↑E.length:Int) (d6 s E R M))).len=(AV.ps (i9 (b8 E R M) (b7 (↑E.length:Int) (d6 s E R M)))).len∧True)∧((0:Int)=bif b8 E R M then(0:Int) else(1:Int))∧True)):=by kernel_rfl
theorem v50 (E:List Ev) (R:List Int) (M:List (List Int)) (s:ByteArray) (h:SzG E M∧L40 s.size):q50D E R M s:=by
 rw[d5t]
 cases hv:b8 E R M
 ·simp only[eq_self,true_and,and_true,z0o,imp_self,m5,m6,m9,g7,g9,PLoop.of,p9,AV.len,i5,z0s,j4,j7,j8,l7,l8,l9,i9,z0l,z2r]
  exact⟨⟨h.1.1,h.1.2⟩,by simp⟩
 ·obtain⟨hG,hN⟩:=a0f hv h.1
  simp only[eq_self,true_and,and_true,z0o,imp_self,m5,m6,m9,g7,g9,PLoop.of,p9,AV.len,i5,z0s,j4,j7,j8,l7,l8,l9,i9,z0g,z2z]
  exact⟨⟨h.1.1,h.1.2⟩,by simp,⟨⟨hG.1.1,hG.1.2⟩,⟨hG.2.1.1,hG.2.1.2⟩,hG.2.2.1,hG.2.2.2⟩,hN,h.2⟩
theorem n50 (nm:List (Option AV)):CallOk Tryz.prog [] 50 (n6 EL none nm [PG,.st] d4n):=x4 Tryz.func50 fo50 fun av pre rv h=>by
 unfold d4n at h; split at h <;> cases h
 exact⟨⟨rfl,fun t a e=>by cases e <;> exact z0h _ _⟩,fun hp=>⟨_,v50 _ _ _ _ (hp _ (.head _)),rfl,(m4 (n34 _) (m4 (n107 _) t6)),t7⟩⟩
def w9 (fn:GF):SpG:=fun
 | [.ag [.es E,.is R,.rs M]]=>some ([SzG E M],a78 (b8 E R M) E.length (b7 E.length (fn E R M)))
 | _=>none
theorem fo26:o6 Tryz.prog 26:=⟨Tryz.f26,Tryz.func26,by kernel_rfl,by kernel_rfl⟩
def q26D (E:List Ev) (R:List Int) (M:List (List Int)):Prop:=n7 (({ calls:=[c9a (nmG E R M)] }:Kit)).tab Tryz.f26 [grV E R M] (grM E R M) ((a78 (b8 E R M) E.length (b7 E.length (d6 ⟨#[112]⟩ E R M))).post EL)
theorem d5f (E:List Ev) (R:List Int) (M:List (List Int)):q26D E R M=(E.length=E.length∧R.length=R.length∧M.length=M.length∧nE E∧nI R∧nR M∧((E.length≤(1099511627776:Nat)∧(M.length≤(8:Nat)→∀(r:List Int),List.Mem r M→r.length≤(1099511627776:Nat)))∧(ByteArray.mk #[(112:UInt8)]).size≤(1099511627776:Nat))∧(AV.ps (i9 (b8 E R M) (b7 (↑E.length:Int) (d6 (ByteArray.mk #[(112:UInt8)]) E R M)))).len=(AV.ps (i9 (b8 E R M) (b7 (↑E.length:Int) (d6 (ByteArray.mk #[(112:UInt8)]) E R M)))).len∧((∀(j:Nat),j < (AV.ps (i9 (b8 E R M) (b7 (↑E.length:Int) (d6 (ByteArray.mk #[(112:UInt8)]) E R M)))).len→(b6 ((0:Int),(0:Int)) (i9 (b8 E R M) (b7 (↑E.length:Int) (d6 (ByteArray.mk #[(112:UInt8)]) E R M))) j).fst=(b6 ((0:Int),(0:Int)) (i9 (b8 E R M) (b7 (↑E.length:Int) (d6 (ByteArray.mk #[(112:UInt8)]) E R M))) j).fst)∧(∀(j:Nat),j < (AV.ps (i9 (b8 E R M) (b7 (↑E.length:Int) (d6 (ByteArray.mk #[(112:UInt8)]) E R M)))).len→(b6 ((0:Int),(0:Int)) (i9 (b8 E R M) (b7 (↑E.length:Int) (d6 (ByteArray.mk #[(112:UInt8)]) E R M))) j).snd=(b6 ((0:Int),(0:Int)) (i9 (b8 E R M) (b7 (↑E.length:Int) (d6 (ByteArray.mk #[(112:UInt8)]) E R M))) j).snd)∧True)∧(((bif b8 E R M then(↑E.length:Int) else(0:Int))=bif b8 E R M then(↑E.length:Int) else(0:Int))∧(AV.ps (i9 (b8 E R M) (b7 (↑E.length:Int) (d6 (ByteArray.mk #[(112:UInt8)]) E R
 M)))).len=(AV.ps (i9 (b8 E R M) (b7 (↑E.length:Int) (d6 (ByteArray.mk #[(112:UInt8)]) E R M)))).len∧True)∧((bif b8 E R M then(0:Int) else(1:Int))=bif b8 E R M then(0:Int) else(1:Int))∧True):=by kernel_rfl
theorem v26 (E:List Ev) (R:List Int) (M:List (List Int)) (h:SzG E M):q26D E R M:=by
 rw[d5f]
 simp only[eq_self,true_and,and_true,z0o,imp_self,m5,m6,m9,g7,g9,PLoop.of,p9,AV.len,i5,z0s,j4,j7,j8,l7,l8,l9]
 exact⟨⟨h.1,h.2⟩,by decide⟩
theorem n26 (nm:List (Option AV)):CallOk Tryz.prog [] 26 (n6 EL none nm [PG] (w9 (d6 ⟨#[112]⟩))):=x4 Tryz.func26 fo26 fun av pre rv h=>by
 unfold w9 at h; split at h <;> cases h
 exact⟨⟨rfl,fun t a e=>by cases e <;> exact z0h _ _⟩,fun hp=>⟨_,v26 _ _ _ (hp _ (.head _)),rfl,(m4 (n50 _) t6),t7⟩⟩
theorem fo28:o6 Tryz.prog 28:=⟨Tryz.f28,Tryz.func28,by kernel_rfl,by kernel_rfl⟩
def q28D (E:List Ev) (R:List Int) (M:List (List Int)):Prop:=n7 (({ calls:=[c9a (nmG E R M)] }:Kit)).tab Tryz.f28 [grV E R M] (grM E R M) ((a78 (b8 E R M) E.length (b7 E.length (d6 ⟨#[114]⟩ E R M))).post EL)
theorem d5h (E:List Ev) (R:List Int) (M:List (List Int)):q28D E R M=(E.length=E.length∧R.length=R.length∧M.length=M.length∧nE E∧nI R∧nR M∧((E.length≤(1099511627776:Nat)∧(M.length≤(8:Nat)→∀(r:List Int),List.Mem r M→r.length≤(1099511627776:Nat)))∧(ByteArray.mk #[(114:UInt8)]).size≤(1099511627776:Nat))∧(AV.ps (i9 (b8 E R M) (b7 (↑E.length:Int) (d6 (ByteArray.mk #[(114:UInt8)]) E R M)))).len=(AV.ps (i9 (b8 E R M) (b7 (↑E.length:Int) (d6 (ByteArray.mk #[(114:UInt8)]) E R M)))).len∧((∀(j:Nat),j < (AV.ps (i9 (b8 E R M) (b7 (↑E.length:Int) (d6 (ByteArray.mk #[(114:UInt8)]) E R M)))).len→(b6 ((0:Int),(0:Int)) (i9 (b8 E R M) (b7 (↑E.length:Int) (d6 (ByteArray.mk #[(114:UInt8)]) E R M))) j).fst=(b6 ((0:Int),(0:Int)) (i9 (b8 E R M) (b7 (↑E.length:Int) (d6 (ByteArray.mk #[(114:UInt8)]) E R M))) j).fst)∧(∀(j:Nat),j < (AV.ps (i9 (b8 E R M) (b7 (↑E.length:Int) (d6 (ByteArray.mk #[(114:UInt8)]) E R M)))).len→(b6 ((0:Int),(0:Int)) (i9 (b8 E R M) (b7 (↑E.length:Int) (d6 (ByteArray.mk #[(114:UInt8)]) E R M))) j).snd=(b6 ((0:Int),(0:Int)) (i9 (b8 E R M) (b7 (↑E.length:Int) (d6 (ByteArray.mk #[(114:UInt8)]) E R M))) j).snd)∧True)∧(((bif b8 E R M then(↑E.length:Int) else(0:Int))=bif b8 E R M then(↑E.length:Int) else(0:Int))∧(AV.ps (i9 (b8 E R M) (b7 (↑E.length:Int) (d6 (ByteArray.mk #[(114:UInt8)]) E R
 M)))).len=(AV.ps (i9 (b8 E R M) (b7 (↑E.length:Int) (d6 (ByteArray.mk #[(114:UInt8)]) E R M)))).len∧True)∧((bif b8 E R M then(0:Int) else(1:Int))=bif b8 E R M then(0:Int) else(1:Int))∧True):=by kernel_rfl
theorem v28 (E:List Ev) (R:List Int) (M:List (List Int)) (h:SzG E M):q28D E R M:=by
 rw[d5h]
 simp only[eq_self,true_and,and_true,z0o,imp_self,m5,m6,m9,g7,g9,PLoop.of,p9,AV.len,i5,z0s,j4,j7,j8,l7,l8,l9]
 exact⟨⟨h.1,h.2⟩,by decide⟩
theorem n28 (nm:List (Option AV)):CallOk Tryz.prog [] 28 (n6 EL none nm [PG] (w9 (d6 ⟨#[114]⟩))):=x4 Tryz.func28 fo28 fun av pre rv h=>by
 unfold w9 at h; split at h <;> cases h
 exact⟨⟨rfl,fun t a e=>by cases e <;> exact z0h _ _⟩,fun hp=>⟨_,v28 _ _ _ (hp _ (.head _)),rfl,(m4 (n50 _) t6),t7⟩⟩
theorem fo30:o6 Tryz.prog 30:=⟨Tryz.f30,Tryz.func30,by kernel_rfl,by kernel_rfl⟩
def q30D (E:List Ev) (R:List Int) (M:List (List Int)):Prop:=n7 (({ calls:=[c9a (nmG E R M)] }:Kit)).tab Tryz.f30 [grV E R M] (grM E R M) ((a78 (b8 E R M) E.length (b7 E.length (d6 ⟨#[109]⟩ E R M))).post EL)
theorem d5j (E:List Ev) (R:List Int) (M:List (List Int)):q30D E R M=(E.length=E.length∧R.length=R.length∧M.length=M.length∧nE E∧nI R∧nR M∧((E.length≤(1099511627776:Nat)∧(M.length≤(8:Nat)→∀(r:List Int),List.Mem r M→r.length≤(1099511627776:Nat)))∧(ByteArray.mk #[(109:UInt8)]).size≤(1099511627776:Nat))∧(AV.ps (i9 (b8 E R M) (b7 (↑E.length:Int) (d6 (ByteArray.mk #[(109:UInt8)]) E R M)))).len=(AV.ps (i9 (b8 E R M) (b7 (↑E.length:Int) (d6 (ByteArray.mk #[(109:UInt8)]) E R M)))).len∧((∀(j:Nat),j < (AV.ps (i9 (b8 E R M) (b7 (↑E.length:Int) (d6 (ByteArray.mk #[(109:UInt8)]) E R M)))).len→(b6 ((0:Int),(0:Int)) (i9 (b8 E R M) (b7 (↑E.length:Int) (d6 (ByteArray.mk #[(109:UInt8)]) E R M))) j).fst=(b6 ((0:Int),(0:Int)) (i9 (b8 E R M) (b7 (↑E.length:Int) (d6 (ByteArray.mk #[(109:UInt8)]) E R M))) j).fst)∧(∀(j:Nat),j < (AV.ps (i9 (b8 E R M) (b7 (↑E.length:Int) (d6 (ByteArray.mk #[(109:UInt8)]) E R M)))).len→(b6 ((0:Int),(0:Int)) (i9 (b8 E R M) (b7 (↑E.length:Int) (d6 (ByteArray.mk #[(109:UInt8)]) E R M))) j).snd=(b6 ((0:Int),(0:Int)) (i9 (b8 E R M) (b7 (↑E.length:Int) (d6 (ByteArray.mk #[(109:UInt8)]) E R M))) j).snd)∧True)∧(((bif b8 E R M then(↑E.length:Int) else(0:Int))=bif b8 E R M then(↑E.length:Int) else(0:Int))∧(AV.ps (i9 (b8 E R M) (b7 (↑E.length:Int) (d6 (ByteArray.mk #[(109:UInt8)]) E R
 M)))).len=(AV.ps (i9 (b8 E R M) (b7 (↑E.length:Int) (d6 (ByteArray.mk #[(109:UInt8)]) E R M)))).len∧True)∧((bif b8 E R M then(0:Int) else(1:Int))=bif b8 E R M then(0:Int) else(1:Int))∧True):=by kernel_rfl
theorem v30 (E:List Ev) (R:List Int) (M:List (List Int)) (h:SzG E M):q30D E R M:=by
 rw[d5j]
 simp only[eq_self,true_and,and_true,z0o,imp_self,m5,m6,m9,g7,g9,PLoop.of,p9,AV.len,i5,z0s,j4,j7,j8,l7,l8,l9]
 exact⟨⟨h.1,h.2⟩,by decide⟩
theorem n30 (nm:List (Option AV)):CallOk Tryz.prog [] 30 (n6 EL none nm [PG] (w9 (d6 ⟨#[109]⟩))):=x4 Tryz.func30 fo30 fun av pre rv h=>by
 unfold w9 at h; split at h <;> cases h
 exact⟨⟨rfl,fun t a e=>by cases e <;> exact z0h _ _⟩,fun hp=>⟨_,v30 _ _ _ (hp _ (.head _)),rfl,(m4 (n50 _) t6),t7⟩⟩
theorem fo32:o6 Tryz.prog 32:=⟨Tryz.f32,Tryz.func32,by kernel_rfl,by kernel_rfl⟩
def q32D (E:List Ev) (R:List Int) (M:List (List Int)):Prop:=n7 (({ calls:=[c9a (nmG E R M)] }:Kit)).tab Tryz.f32 [grV E R M] (grM E R M) ((a78 (b8 E R M) E.length (b7 E.length (d6 ⟨#[115]⟩ E R M))).post EL)
theorem d5l (E:List Ev) (R:List Int) (M:List (List Int)):q32D E R M=(E.length=E.length∧R.length=R.length∧M.length=M.length∧nE E∧nI R∧nR M∧((E.length≤(1099511627776:Nat)∧(M.length≤(8:Nat)→∀(r:List Int),List.Mem r M→r.length≤(1099511627776:Nat)))∧(ByteArray.mk #[(115:UInt8)]).size≤(1099511627776:Nat))∧(AV.ps (i9 (b8 E R M) (b7 (↑E.length:Int) (d6 (ByteArray.mk #[(115:UInt8)]) E R M)))).len=(AV.ps (i9 (b8 E R M) (b7 (↑E.length:Int) (d6 (ByteArray.mk #[(115:UInt8)]) E R M)))).len∧((∀(j:Nat),j < (AV.ps (i9 (b8 E R M) (b7 (↑E.length:Int) (d6 (ByteArray.mk #[(115:UInt8)]) E R M)))).len→(b6 ((0:Int),(0:Int)) (i9 (b8 E R M) (b7 (↑E.length:Int) (d6 (ByteArray.mk #[(115:UInt8)]) E R M))) j).fst=(b6 ((0:Int),(0:Int)) (i9 (b8 E R M) (b7 (↑E.length:Int) (d6 (ByteArray.mk #[(115:UInt8)]) E R M))) j).fst)∧(∀(j:Nat),j < (AV.ps (i9 (b8 E R M) (b7 (↑E.length:Int) (d6 (ByteArray.mk #[(115:UInt8)]) E R M)))).len→(b6 ((0:Int),(0:Int)) (i9 (b8 E R M) (b7 (↑E.length:Int) (d6 (ByteArray.mk #[(115:UInt8)]) E R M))) j).snd=(b6 ((0:Int),(0:Int)) (i9 (b8 E R M) (b7 (↑E.length:Int) (d6 (ByteArray.mk #[(115:UInt8)]) E R M))) j).snd)∧True)∧(((bif b8 E R M then(↑E.length:Int) else(0:Int))=bif b8 E R M then(↑E.length:Int) else(0:Int))∧(AV.ps (i9 (b8 E R M) (b7 (↑E.length:Int) (d6 (ByteArray.mk #[(115:UInt8)]) E R
 M)))).len=(AV.ps (i9 (b8 E R M) (b7 (↑E.length:Int) (d6 (ByteArray.mk #[(115:UInt8)]) E R M)))).len∧True)∧((bif b8 E R M then(0:Int) else(1:Int))=bif b8 E R M then(0:Int) else(1:Int))∧True):=by kernel_rfl
theorem v32 (E:List Ev) (R:List Int) (M:List (List Int)) (h:SzG E M):q32D E R M:=by
 rw[d5l]
 simp only[eq_self,true_and,and_true,z0o,imp_self,m5,m6,m9,g7,g9,PLoop.of,p9,AV.len,i5,z0s,j4,j7,j8,l7,l8,l9]
 exact⟨⟨h.1,h.2⟩,by decide⟩
theorem n32 (nm:List (Option AV)):CallOk Tryz.prog [] 32 (n6 EL none nm [PG] (w9 (d6 ⟨#[115]⟩))):=x4 Tryz.func32 fo32 fun av pre rv h=>by
 unfold w9 at h; split at h <;> cases h
 exact⟨⟨rfl,fun t a e=>by cases e <;> exact z0h _ _⟩,fun hp=>⟨_,v32 _ _ _ (hp _ (.head _)),rfl,(m4 (n50 _) t6),t7⟩⟩
def c30 (n:Nat) (f:Pf):List Pq:=b7 n (wF (d9 (b7 n f)) n)
def d3d (fn:GF):SpG:=fun
 | [.ag [.es E,.is R,.rs M]]=>some ([SzG E M],a78 (b8 E R M) E.length (c30 E.length (fn E R M)))
 | _=>none
theorem c2d (f:Pf) {n:Nat} (hN:n≤64):(b7 n f).length≤1099511627776:=by
 rw[a5r]
 have h1:=a2j f n n
 have h3:n * n≤64 * 64:=z2v (by omega) (by omega)
 omega
def b02 (E:List Ev) (j:Nat):Int→Option Int:=fun a=>bif a1n a E j == 0 then none else some (a1n a E j)
def lVe (E:List Ev) (m t r:Nat):LAnn:=p9 E.length t (fun j=>t4 (a61 E m) j=true) (fun j=>[(r,.mapi .i64 (some .i64) (b02 E j))]) []
def sVe:SpG:=fun
 | [.lf (.es E),.lf (.i m)]=>some ([L40 E.length∧0≤m],.rv (.pl (.b (a6n E m.toNat))))
 | _=>none
def kVe (nm:List (Option AV)):Nat × (List MBlk→List SV→Option AR):=(79,n6 EL gbT nm [.lf .es,.lf .i] sVe)
theorem c8i (E:List Ev) (j:Nat) (a:Int):a1e (b02 E j a)=a1n a E j:=by
 unfold b02
 cases h:a1n a E j == 0
 ·rfl
 ·simp only[z0g,a1e]; simp at h; exact h.symm
theorem c31 {E:List Ev} {j:Nat} (hj:j < 1099511627776) (x:Int):(bif x == (b6 e0 E j).ag then some (IntKind.i64.wrap (a1n (b6 e0 E j).ag E j + 1)) else b02 E j x)=b02 E (j + 1) x:=by
 have h5:=b7w (b6 e0 E j).ag E j
 cases h:x == (b6 e0 E j).ag
 ·have h2:((b6 e0 E j).ag == x)=false:=by
   have:x≠(b6 e0 E j).ag:=by simpa using h
   simpa using fun e=>this e.symm
  simp only[z0l,b02,a1n,h2]
 ·have h2:x=(b6 e0 E j).ag:=by simpa using h
  subst h2
  have h3:(a1n (b6 e0 E j).ag E j + 1 == 0)=false:=by simp; omega
  simp only[z0g,b02,a1n,beq_self_eq_true,h3,z0l]
  rw[a4c (by omega) (by omega)]
theorem fo79:o6 Tryz.prog 79:=⟨Tryz.f79,Tryz.func79,by kernel_rfl,by kernel_rfl⟩
def q79D (E:List Ev) (m:Int):Prop:=n7 (({ g:=true,calls:=[kVE,kE1 80 rdE,kE1 81 wrE],loops:=[(0,.of (lVe E m.toNat 11 2))] }:Kit)).tab Tryz.f79 [.sl 1 E.length,.i .i64 m] [tbl,.arr E.length (l5 E)] (l4 (.b (a6n E m.toNat)))
theorem d66 (E:List Ev) (m:Int):q79D E m=(∃(x:PUnit),(∃(x:Nat),(x≤E.length∧t4 (a61 E m.toNat) x=true)∧((0:Int)=(↑x:Int)∧True)∧(∀(x_1:Int),none=b02 E x x_1)∧True)∧∀(x_1:Nat),x_1≤E.length∧t4 (a61 E m.toNat) x_1=true→(decide ((↑x_1:Int) < (↑E.length:Int))=true→((0:Int)≤(↑x_1:Int)∧(↑x_1:Int) < (↑E.length:Int))∧x_1 < E.length∧some (i7 [] (match i6 (((PLoop.of (lVe E m.toNat (11:Nat) (2:Nat))).ann x).mem x_1) (0:Nat) with | some v=>v | none=>i7 ((PLoop.of (lVe E m.toNat (11:Nat) (2:Nat))).ann x).kill tbl))=some tbl∧((!q6 (b6 e0 E x_1) || (b6 e0 E x_1).k == (3:Int) || (b6 e0 E x_1).k == (4:Int) || (b6 e0 E x_1).en != (-1:Int) || (b6 e0 E x_1).ix != a1e (b02 E x_1 (b6 e0 E x_1).ag))=true→false=a6n E m.toNat)∧((!q6 (b6 e0 E x_1) || (b6 e0 E x_1).k == (3:Int) || (b6 e0 E x_1).k == (4:Int) || (b6 e0 E x_1).en != (-1:Int) || (b6 e0 E x_1).ix != a1e (b02 E x_1 (b6 e0 E x_1).ag))=false→(((rdE (b6 e0 E x_1) || wrE (b6 e0 E x_1)) && decide ((b6 e0 E x_1).ob ≥ m))=true→false=a6n E m.toNat)∧(((rdE (b6 e0 E x_1) || wrE (b6 e0 E x_1)) && decide ((b6 e0 E x_1).ob ≥ m))=false→∃(x_2:Nat),(x_2≤E.length∧t4 (a61 E m.toNat) x_2=true)∧((PLoop.of (lVe E m.toNat (11:Nat) (2:Nat))).ann x).mu x_2 < ((PLoop.of (lVe E m.toNat (11:Nat) (2:Nat))).ann x).mu x_1∧(E.length=E.length∧m=m∧True∧True∧E.length=E.length ∧
 (↑E.length:Int)=(↑E.length:Int)∧IntKind.i64.wrap ((↑x_1:Int) + (1:Int))=(↑x_2:Int)∧True)∧eqT∧eqA E.length (l5 E)∧(∀(x:Int),(bif x == (b6 e0 E x_1).ag then some (IntKind.i64.wrap (a1e (b02 E x_1 (b6 e0 E x_1).ag) + (1:Int))) else b02 E x_1 x)=b02 E x_2 x)∧True)))∧(decide ((↑x_1:Int) < (↑E.length:Int))=false→true=a6n E m.toNat)):=by kernel_rfl
theorem v79 (E:List Ev) (m:Int) (h:L40 E.length∧0≤m):q79D E m:=by
 rw[d66]
 have hL:E.length≤1099511627776:=h.1
 have hm:(m.toNat:Int)=m:=z1b h.2
 simp only[eq_self,true_and,and_true,z0o,imp_self,m5,m6,m9,g7,g9,PLoop.of,p9,AV.len,i5,z0s,j4,j7,j8,l7,l8,l9,lVe]
 refine⟨(),⟨0,⟨by omega,rfl⟩,rfl,fun _=>rfl⟩,fun j hj=>⟨fun hlt=>?_,fun hlt=>?_⟩⟩
 ·have h1:j < E.length:=by have:=z0e hlt; omega
  have e:a61 E m.toNat j=(q6 (b6 e0 E j) && (b6 e0 E j).k != 3 && (b6 e0 E j).k != 4 && (b6 e0 E j).en == -1 && (b6 e0 E j).ix == a1n (b6 e0 E j).ag E j && !((rdE (b6 e0 E j) || wrE (b6 e0 E j)) && decide ((b6 e0 E j).ob ≥ (m.toNat:Int)))):=rfl
  rw[hm] at e
  simp only[c8i]
  refine⟨⟨by omega,by omega⟩,h1,rfl,fun h2=>?_,fun h2=>⟨fun h3=>?_,fun h3=>⟨j + 1,⟨by omega,?_⟩,by omega,wrS (n:=E.length) h1 hL,fun x=>c31 (by omega) x⟩⟩⟩
  ·refine(a35 h1 ?_).symm
   rw[e]; grind
  ·refine(a35 h1 ?_).symm
   rw[e,h3]; simp
  ·simp only[t4,hj.2,z1o]
   rw[e,h3]; grind
 ·have h1:j=E.length:=by have:=z0m hlt; omega
  have:=hj.2
  rw[h1] at this
  exact this.symm
theorem n79 (nm:List (Option AV)):CallOk Tryz.prog GL 79 (n6 EL gbT nm [.lf .es,.lf .i] sVe):=a4r Tryz.func79 fo79 fun av pre rv h=>by
 unfold sVe at h; split at h <;> cases h
 exact⟨⟨rfl,fun t a e=>by cases e <;> exact z0h _ _⟩,fun hp=>⟨_,v79 _ _ (hp _ (.head _)),rfl,(m4 (n123 _) (m4 (a11 (n80 _)) (m4 (a11 (n81 _)) t6))),t7⟩⟩
def a1w (E:List Ev):Nat→Int
 | 0=>0
 | j + 1=>bif wrE (evA E j) then a1w E j + 1 else a1w E j
def a2g (L:List Int):Int→Option Int:=fun a=>bif L.contains a then some 1 else none
def u4 (M:List (List Int)):Nat→List Int
 | 0=>[]
 | o + 1=>u4 M o ++ w8 M o
def a03 (E:List Ev) (o:Int):List Int→List Int→Bool
 | _,[]=>true
 | L,x :: r=>decide (0≤x) && decide (x < E.length) && !L.contains x && wrE (evA E x) && (evA E x).ob == o && a03 E o (L ++ [x]) r
def a1b (E:List Ev) (M:List (List Int)):Nat→Bool
 | 0=>true
 | o + 1=>a1b E M o && a03 E o (u4 M o) (w8 M o)
def lV1 (E:List Ev) (R:List Int) (t c:Nat):LAnn where
 X:=Nat
 inv:=fun j=>j≤E.length∧t4 (a1c E R) j=true
 slots:=fun j=>[(t,.i .i64 (j:Int)),(c,.i .i64 (a1w E j))]
 mem:=fun _=>[]
 mu:=fun j=>E.length - j
 kill:=[]
def lV2 (E:List Ev) (M:List (List Int)) (t r:Nat):LAnn:=p9 M.length t (fun o=>a1b E M o=true) (fun o=>[(r,.mapi .i64 none (a2g (u4 M o)))]) []
def lV3 (E:List Ev) (M:List (List Int)) (t r:Nat):PLoop:=⟨Nat,fun o=>{ X:=Nat,inv:=fun q=>q≤(w8 M o).length∧o < M.length∧a03 E o (u4 M o) ((w8 M o).take q)=true,slots:=fun q=>[(t,.i .i64 (q:Int))],mem:=fun q=>[(r,.mapi .i64 none (a2g (u4 M o ++ (w8 M o).take q)))],mu:=fun q=>(w8 M o).length - q,kill:=[] }⟩
theorem b20 {L:List Int}:∀ {W:List Int},L.Nodup→(∀ x∈L,x∈W)→W.length≤L.length→∀ x∈W,x∈L:=by
 induction L with
 | nil=>intro W _ _ hl x hx; cases W with
  | nil=>cases hx
  | cons y r=>simp at hl
 | cons a L ih =>
  intro W hn hs hl x hx
  rw[z3q] at hn
  by_cases e:x=a
  ·subst e; exact z1i
  ·refine z0u _ (ih (W:=W.erase a) hn.2 (fun y hy=>?_) ?_ x ((List.mem_erase_of_ne e).2 hx))
   ·exact(List.mem_erase_of_ne (fun h:y=a=>hn.1 (by rw[← h]; exact hy))).2 (hs y (z0u _ hy))
   ·rw[List.length_erase_of_mem (hs a z1i)]
    simp at hl; omega
theorem b0l {L:List Int}:∀ {W:List Int},L.Nodup→(∀ x∈L,x∈W)→L.length≤W.length:=by
 induction L with
 | nil=>intro W _ _; simp
 | cons a L ih =>
  intro W hn hs
  rw[z3q] at hn
  have h1:=ih (W:=W.erase a) hn.2 (fun y hy=>(List.mem_erase_of_ne (fun h:y=a=>hn.1 (by rw[← h]; exact hy))).2 (hs y (z0u _ hy)))
  have h2:=hs a z1i
  rw[List.length_erase_of_mem h2] at h1
  have h3:0 < W.length:=List.length_pos_of_mem h2
  simp; omega
theorem c4f {W:List Int}:∀ {r:List Int},W.Nodup→(∀ x∈W,x∈r)→r.length≤W.length→r.Nodup:=by
 induction W with
 | nil=>intro r _ _ hl; cases r with
  | nil=>exact List.nodup_nil
  | cons y r=>simp at hl
 | cons a W ih =>
  intro r hn hs hl
  have hall:=b20 hn hs hl
  rw[z3q] at hn
  have ha:=hs a z1i
  have hlen:=List.length_erase_of_mem ha
  have hsub:∀ x∈W,x∈r.erase a:=fun x hx=>(List.mem_erase_of_ne (fun h:x=a=>hn.1 (by rw[← h]; exact hx))).2 (hs x (z0u _ hx))
  have hl2:(r.erase a).length≤W.length:=by simp at hl; omega
  have h1:=ih hn.2 hsub hl2
  have h2:=b20 hn.2 hsub hl2
  exact(List.perm_cons_erase ha).nodup_iff.2 (z3q.2 ⟨fun h=>hn.1 (h2 a h),h1⟩)
def wrL (E:List Ev):Nat→List Int
 | 0=>[]
 | j + 1=>bif wrE (evA E j) then wrL E j ++ [(j:Int)] else wrL E j
def wrO (E:List Ev) (o:Int):Nat→List Int
 | 0=>[]
 | j + 1=>bif a2d E o j then wrO E o j ++ [(j:Int)] else wrO E o j
theorem b29 {E:List Ev} {x:Int}:∀ {j:Nat},x∈wrL E j↔0≤x∧x < j∧wrE (evA E x)=true:=by
 intro j
 induction j with
 | zero=>simp[wrL]; omega
 | succ j ih =>
  simp only[wrL]
  cases h:wrE (evA E j)
  ·simp only[z0l,ih]
   constructor
   ·rintro ⟨a,b,c⟩; exact⟨a,by omega,c⟩
   ·rintro ⟨a,b,c⟩
    refine⟨a,?_,c⟩
    have:x≠j:=fun e=>by subst e; rw[h] at c; cases c
    omega
  ·simp only[z0g,z0n,z0t,ih]
   constructor
   ·rintro (⟨a,b,c⟩ | rfl)
    ·exact⟨a,by omega,c⟩
    ·exact⟨by omega,by omega,h⟩
   ·rintro ⟨a,b,c⟩
    by_cases e:x=j
    ·exact .inr e
    ·exact .inl ⟨a,by omega,c⟩
theorem c55 {E:List Ev}:∀ {j:Nat},(wrL E j).Nodup:=by
 intro j
 induction j with
 | zero=>simp[wrL]
 | succ j ih =>
  simp only[wrL]
  cases h:wrE (evA E j)
  ·exact ih
  ·simp only[z0g]
   rw[List.nodup_append]
   refine⟨ih,by simp,fun a ha b hb=>?_⟩
   have:=(b29.1 ha).2.1
   simp at hb
   omega
theorem d26 {E:List Ev}:∀ {j:Nat},((wrL E j).length:Int)=a1w E j:=by
 intro j
 induction j with
 | zero=>rfl
 | succ j ih =>
  simp only[wrL,a1w]
  cases h:wrE (evA E j)
  ·exact ih
  ·simp only[z0g,z1a,z3i]; omega
theorem a4j {E:List Ev} {o x:Int}:∀ {j:Nat},x∈wrO E o j↔0≤x∧x < j∧a2d E o x=true:=by
 intro j
 induction j with
 | zero=>simp[wrO]; omega
 | succ j ih =>
  simp only[wrO]
  cases h:a2d E o j
  ·simp only[z0l,ih]
   constructor
   ·rintro ⟨a,b,c⟩; exact⟨a,by omega,c⟩
   ·rintro ⟨a,b,c⟩
    refine⟨a,?_,c⟩
    have:x≠j:=fun e=>by subst e; rw[h] at c; cases c
    omega
  ·simp only[z0g,z0n,z0t,ih]
   constructor
   ·rintro (⟨a,b,c⟩ | rfl)
    ·exact⟨a,by omega,c⟩
    ·exact⟨by omega,by omega,h⟩
   ·rintro ⟨a,b,c⟩
    by_cases e:x=j
    ·exact .inr e
    ·exact .inl ⟨a,by omega,c⟩
theorem b0w {E:List Ev} {o:Int}:∀ {j:Nat},(wrO E o j).Nodup:=by
 intro j
 induction j with
 | zero=>simp[wrO]
 | succ j ih =>
  simp only[wrO]
  cases h:a2d E o j
  ·exact ih
  ·simp only[z0g]
   rw[List.nodup_append]
   refine⟨ih,by simp,fun a ha b hb=>?_⟩
   have:=(a4j.1 ha).2.1
   simp at hb
   omega
theorem d27 {E:List Ev} {o:Int}:∀ {j:Nat},((wrO E o j).length:Int)=a5l E o j:=by
 intro j
 induction j with
 | zero=>rfl
 | succ j ih =>
  simp only[wrO,a5l]
  cases h:a2d E o j
  ·exact ih
  ·simp only[z0g,z1a,z3i]; omega
theorem c6w {x:Int}:∀ {l:List Int} {i:Int},0≤i→(a82 x l i < 0↔x ∉ l):=by
 intro l
 induction l with
 | nil=>intro i _; simp[a82]
 | cons y r ih =>
  intro i hi
  simp only[a82]
  cases h:y == x
  ·have h2:x≠y:=by
              have:y≠x:=by simpa using h
              exact fun e=>this e.symm
   rw[z0l,ih (by omega)]
   simp[h2]
  ·have h2:y=x:=by simpa using h
   subst h2
   simp; omega
theorem b76 {x:Int} {l:List Int}:a4t l x < 0↔x ∉ l:=c6w (Int.le_refl 0)
theorem a8e {M:List (List Int)} {x:Int}:∀ {m:Nat},x∈u4 M m↔∃ o:Nat,o < m∧x∈w8 M o:=by
 intro m
 induction m with
 | zero=>simp[u4]
 | succ m ih =>
  simp only[u4,z0n,ih]
  constructor
  ·rintro (⟨o,h1,h2⟩ | h)
   ·exact⟨o,by omega,h2⟩
   ·exact⟨m,by omega,h⟩
  ·rintro ⟨o,h1,h2⟩
   by_cases e:o=m
   ·subst e; exact .inr h2
   ·exact .inl ⟨o,by omega,h2⟩
theorem a21 {E:List Ev} {o:Int}:∀ {r L:List Int},a03 E o L r=true↔(∀ x∈r,(0≤x∧x < E.length)∧x ∉ L∧wrE (evA E x)=true∧(evA E x).ob=o)∧r.Nodup:=by
 intro r
 induction r with
 | nil=>intro L; simp[a03]
 | cons x r ih =>
  intro L
  simp only[a03,z0d,z1p,z0v,beq_iff_eq,ih,z3q,z0r,z0n,List.contains_eq_mem,z1g]
  constructor
  ·rintro ⟨⟨⟨⟨⟨h1,h2⟩,h3⟩,h4⟩,h5⟩,h6,h7⟩
   refine⟨fun y hy=>?_,?_,h7⟩
   ·rcases hy with rfl | hy
    ·exact⟨⟨h1,h2⟩,h3,h4,h5⟩
    ·obtain⟨a,b,c⟩:=h6 y hy
     exact⟨a,fun h=>b (.inl h),c⟩
   ·intro hx
    exact(h6 x hx).2.1 (.inr (by simp))
  ·rintro ⟨h1,h2,h3⟩
   obtain⟨a,b,c,d⟩:=h1 x (.inl rfl)
   refine⟨⟨⟨⟨⟨a.1,a.2⟩,b⟩,c⟩,d⟩,fun y hy=>?_,h3⟩
   obtain⟨a',b',c',d'⟩:=h1 y (.inr hy)
   refine⟨a',fun h=>?_,c',d'⟩
   rcases h with h | h
   ·exact b' h
   ·simp at h; subst h; exact h2 hy
end Go.Proofs.YtaeeaniofljmnaaGreatDoor
