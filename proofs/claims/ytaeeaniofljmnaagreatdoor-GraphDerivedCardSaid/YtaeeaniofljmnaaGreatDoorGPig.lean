/-
  A part of the proof (GPig).
-/
import Derived.Test.YtaeeaniofljmnaaGreatDoorG18
namespace Go.Proofs.YtaeeaniofljmnaaGreatDoor
set_option linter.unusedSimpArgs false
set_option linter.unusedVariables false
open Go Go.Proofs.YtaeeaniofljmnaaGreatDoor.Sx
set_option maxRecDepth 100000
def a2f (E:List Ev) (o:Int) (j:Int):Bool:=wrE (evA E j) && (evA E j).ob == o
def a5t (E:List Ev) (o:Int):Nat→Int
 | 0=>0
 | j + 1=>bif a2f E o j then a5t E o j + 1 else a5t E o j
theorem d1k (E:List Ev) (o:Int):∀ j,0≤a5t E o j∧a5t E o j≤j:=by
 intro j
 induction j with
 | zero=>simp[a5t]
 | succ j ih=>simp only[a5t]; cases a2f E o j <;> simp <;> omega
def a8a (E:List Ev) (M:List (List Int)) (o:Int) (j:Int):Bool:=!(a2f E o j && decide (a4v (w9 M o) j < 0))
def a4l (E:List Ev) (M:List (List Int)) (o:Int):Bool:=t5 (a8a E M o) E.length && ((w9 M o).length:Int) == a5t E o E.length
def b8 (E:List Ev) (R:List Int) (M:List (List Int)):Bool:=
 decide (E.length≤64) && decide (R.length=E.length) && decide (M.length≤8) && a6u E M.length && t5 (a18 E R) E.length && t5 (a4l E M) M.length
def SzG (E:List Ev) (M:List (List Int)):Prop:=L40 E.length∧(M.length≤8→∀ r∈M,L40 r.length)
def c44:SpG:=fun
 | [.ag [.es E,.is R,.rs M]]=>some ([SzG E M],.rv (.pl (.b (b8 E R M))))
 | _=>none
def d67 (nm:List (Option AV)):Nat × (List MBlk→List SV→Option AR):=(34,o5 EL none nm [PG] c44)
def c3p (E:List Ev) (M:List (List Int)) (t c:Nat):PLoop:=⟨Nat,fun o=>{ X:=Nat,inv:=fun j=>j≤E.length∧o < M.length∧t5 (a8a E M o) j=true,slots:=fun j=>[(t,.i .i64 (j:Int)),(c,.i .i64 (a5t E o j))],mem:=fun _=>[],mu:=fun j=>E.length - j,kill:=[] }⟩
theorem fo34:o6 Tryz.prog 34:=⟨Tryz.f34,Tryz.func34,by kernel_rfl,by kernel_rfl⟩
def q34D (E:List Ev) (R:List Int) (M:List (List Int)):Prop:=n7 (({ calls:=[kLsd (nmG E R M),kSrc (nmG E R M),kE1 84 wrE,d52 66 []],loops:=[(0,.of (lAl (a18 E R) E.length 3)),(2,.of (lAl (a4l E M) M.length 4)),(4,c3p E M 6 5)] }:Kit)).tab Tryz.f34 [grV E R M] (grM E R M) (j9 (.b (b8 E R M)))
theorem d6q (E:List Ev) (R:List Int) (M:List (List Int)):q34D E R M=(((decide ((↑E.length:Int) > (64:Int)) || (↑R.length:Int) != (↑E.length:Int) || decide ((↑M.length:Int) > (8:Int)))=false→E.length=E.length)∧((decide ((↑E.length:Int) > (64:Int)) || (↑R.length:Int) != (↑E.length:Int) || decide ((↑M.length:Int) > (8:Int)))=false→R.length=R.length)∧((decide ((↑E.length:Int) > (64:Int)) || (↑R.length:Int) != (↑E.length:Int) || decide ((↑M.length:Int) > (8:Int)))=false→M.length=M.length)∧((decide ((↑E.length:Int) > (64:Int)) || (↑R.length:Int) != (↑E.length:Int) || decide ((↑M.length:Int) > (8:Int)))=false→nE E)∧((decide ((↑E.length:Int) > (64:Int)) || (↑R.length:Int) != (↑E.length:Int) || decide ((↑M.length:Int) > (8:Int)))=false→nI R)∧((decide ((↑E.length:Int) > (64:Int)) || (↑R.length:Int) != (↑E.length:Int) || decide ((↑M.length:Int) > (8:Int)))=false→nR M)∧((decide ((↑E.length:Int) > (64:Int)) || (↑R.length:Int) != (↑E.length:Int) || decide ((↑M.length:Int) > (8:Int)))=false→E.length≤(1099511627776:Nat))∧((decide ((↑E.length:Int) > (64:Int)) || (↑R.length:Int) != (↑E.length:Int) || decide ((↑M.length:Int) > (8:Int)) || !a6u E M.length)=true→false=b8 E R M)∧((decide ((↑E.length:Int) > (64:Int)) || (↑R.length:Int) != (↑E.length:Int) || decide ((↑M.length:Int) > (8:Int)) || !a6u E M.length)=false→∃(x:PUnit),(∃(x:Nat),(x≤E.length∧t5 (a18 E R) x=true) ∧
 ((0:Int)=(↑x:Int)∧True)∧True)∧∀(x_1:Nat),x_1≤E.length∧t5 (a18 E R) x_1=true→(decide ((↑x_1:Int) < (↑E.length:Int))=true→E.length=E.length∧R.length=R.length∧M.length=M.length∧nE E∧nI R∧nR M∧(((0:Int)≤(↑x_1:Int)∧(↑x_1:Int) < (↑E.length:Int))∧R.length=E.length)∧((!a18 E R (↑x_1:Int))=true→false=b8 E R M)∧((!a18 E R (↑x_1:Int))=false→∃(x_2:Nat),(x_2≤E.length∧t5 (a18 E R) x_2=true)∧((PLoop.of (lAl (a18 E R) E.length (3:Nat))).ann x).mu x_2 < ((PLoop.of (lAl (a18 E R) E.length (3:Nat))).ann x).mu x_1∧((E.length=E.length∧R.length=R.length∧M.length=M.length)∧True∧IntKind.i64.wrap ((↑x_1:Int) + (1:Int))=(↑x_2:Int)∧True∧E.length=E.length∧(↑E.length:Int)=(↑E.length:Int)∧decide ((↑E.length:Int) > (64:Int))=decide ((↑E.length:Int) > (64:Int))∧decide ((↑E.length:Int) > (64:Int))=decide ((↑E.length:Int) > (64:Int))∧(decide ((↑E.length:Int) > (64:Int)) || (↑R.length:Int) != (↑E.length:Int))=(decide ((↑E.length:Int) > (64:Int)) || (↑R.length:Int) != (↑E.length:Int))∧(decide ((↑E.length:Int) > (64:Int)) || (↑R.length:Int) != (↑E.length:Int))=(decide ((↑E.length:Int) > (64:Int)) || (↑R.length:Int) != (↑E.length:Int))∧(decide ((↑E.length:Int) > (64:Int)) || (↑R.length:Int) != (↑E.length:Int) || decide ((↑M.length:Int) > (8:Int)))=(decide ((↑E.length:Int) > (64 :
 Int)) || (↑R.length:Int) != (↑E.length:Int) || decide ((↑M.length:Int) > (8:Int)))∧(decide ((↑E.length:Int) > (64:Int)) || (↑R.length:Int) != (↑E.length:Int) || decide ((↑M.length:Int) > (8:Int)))=(decide ((↑E.length:Int) > (64:Int)) || (↑R.length:Int) != (↑E.length:Int) || decide ((↑M.length:Int) > (8:Int)))∧false=false∧True)∧eqA E.length (l5 E)∧eqA R.length (i9 R)∧eqA M.length (j8 M)∧(E.length=E.length∧R.length=R.length∧M.length=M.length)∧True))∧(decide ((↑x_1:Int) < (↑E.length:Int))=false→∃(x:PUnit),(∃(x:Nat),(x≤M.length∧t5 (a4l E M) x=true)∧((0:Int)=(↑x:Int)∧True)∧True)∧∀(x_2:Nat),x_2≤M.length∧t5 (a4l E M) x_2=true→(decide ((↑x_2:Int) < (↑M.length:Int))=true→∃(x_3:Nat),(∃(x:Nat),(x≤E.length∧x_3 < M.length∧t5 (a8a E M (↑x_3:Int)) x=true)∧((0:Int)=(↑x:Int)∧(0:Int)=a5t E (↑x_3:Int) x∧True)∧True)∧∀(x_4:Nat),x_4≤E.length∧x_3 < M.length∧t5 (a8a E M (↑x_3:Int)) x_4=true→(decide ((↑x_4:Int) < (↑E.length:Int))=true→((0:Int)≤(↑x_4:Int)∧(↑x_4:Int) < (↑E.length:Int))∧x_4 < E.length∧(wrE (b6 e0 E x_4)=true→(0:Int)≤(↑x_4:Int)∧(↑x_4:Int) < (↑E.length:Int))∧(wrE (b6 e0 E x_4)=true→x_4 < E.length)∧((wrE (b6 e0 E x_4) && (b6 e0 E x_4).ob == (↑x_2:Int))=true→((0:Int)≤(↑x_2:Int)∧(↑x_2:Int) < (↑M.length:Int)) ∧
 x_2 < M.length∧(b6 [] M x_2).length=(b6 [] M x_2).length∧(mkN (fun(i:Nat)=>b6 (0:Int) (b6 [] M x_2) i) (b6 [] M x_2).length).length≤(1099511627776:Nat)∧(decide (a4v (mkN (fun(i:Nat)=>b6 (0:Int) (b6 [] M x_2) i) (b6 [] M x_2).length) (↑x_4:Int) < (0:Int))=true→false=b8 E R M)∧(decide (a4v (mkN (fun(i:Nat)=>b6 (0:Int) (b6 [] M x_2) i) (b6 [] M x_2).length) (↑x_4:Int) < (0:Int))=false→∃(x:Nat),(x≤E.length∧x_3 < M.length∧t5 (a8a E M (↑x_3:Int)) x=true)∧((c3p E M (6:Nat) (5:Nat)).ann x_3).mu x < ((c3p E M (6:Nat) (5:Nat)).ann x_3).mu x_4∧((E.length=E.length∧R.length=R.length∧M.length=M.length)∧True∧(↑x_1:Int)=(↑x_1:Int)∧(↑x_2:Int)=(↑x_2:Int)∧IntKind.i64.wrap (a5t E (↑x_3:Int) x_4 + (1:Int))=a5t E (↑x_3:Int) x∧IntKind.i64.wrap ((↑x_4:Int) + (1:Int))=(↑x:Int)∧True∧E.length=E.length∧(↑E.length:Int)=(↑E.length:Int)∧decide ((↑E.length:Int) > (64:Int))=decide ((↑E.length:Int) > (64:Int))∧decide ((↑E.length:Int) > (64:Int))=decide ((↑E.length:Int) > (64:Int))∧(decide ((↑E.length:Int) > (64:Int)) || (↑R.length:Int) != (↑E.length:Int))=(decide ((↑E.length:Int) > (64:Int)) || (↑R.length:Int) != (↑E.length:Int))∧(decide ((↑E.length:Int) > (64:Int)) || (↑R.length:Int) != (↑E.length:Int))=(decide ((↑E.length:Int) > (64:Int)) || (↑R.length:Int) != (↑E.length
 : Int))∧(decide ((↑E.length:Int) > (64:Int)) || (↑R.length:Int) != (↑E.length:Int) || decide ((↑M.length:Int) > (8:Int)))=(decide ((↑E.length:Int) > (64:Int)) || (↑R.length:Int) != (↑E.length:Int) || decide ((↑M.length:Int) > (8:Int)))∧(decide ((↑E.length:Int) > (64:Int)) || (↑R.length:Int) != (↑E.length:Int) || decide ((↑M.length:Int) > (8:Int)))=(decide ((↑E.length:Int) > (64:Int)) || (↑R.length:Int) != (↑E.length:Int) || decide ((↑M.length:Int) > (8:Int)))∧false=false∧(↑x_1:Int)=(↑x_1:Int)∧True∧E.length=E.length∧(↑E.length:Int)=(↑E.length:Int)∧false=false∧(↑x_2:Int)=(↑x_2:Int)∧True∧M.length=M.length∧(↑M.length:Int)=(↑M.length:Int)∧true=true∧True)∧eqA E.length (l5 E)∧eqA R.length (i9 R)∧eqA M.length (j8 M)∧(E.length=E.length∧R.length=R.length∧M.length=M.length)∧True))∧((wrE (b6 e0 E x_4) && (b6 e0 E x_4).ob == (↑x_2:Int))=false→∃(x:Nat),(x≤E.length∧x_3 < M.length∧t5 (a8a E M (↑x_3:Int)) x=true)∧((c3p E M (6:Nat) (5:Nat)).ann x_3).mu x < ((c3p E M (6:Nat) (5:Nat)).ann x_3).mu x_4∧((E.length=E.length∧R.length=R.length∧M.length=M.length)∧True∧(↑x_1:Int)=(↑x_1:Int)∧(↑x_2:Int)=(↑x_2:Int)∧a5t E (↑x_3:Int) x_4=a5t E (↑x_3:Int) x∧IntKind.i64.wrap ((↑x_4:Int) + (1:Int))=(↑x:Int)∧True∧E.length=E.length∧(↑E.length:Int)=(↑E.length:Int)
 ∧ decide ((↑E.length:Int) > (64:Int))=decide ((↑E.length:Int) > (64:Int))∧decide ((↑E.length:Int) > (64:Int))=decide ((↑E.length:Int) > (64:Int))∧(decide ((↑E.length:Int) > (64:Int)) || (↑R.length:Int) != (↑E.length:Int))=(decide ((↑E.length:Int) > (64:Int)) || (↑R.length:Int) != (↑E.length:Int))∧(decide ((↑E.length:Int) > (64:Int)) || (↑R.length:Int) != (↑E.length:Int))=(decide ((↑E.length:Int) > (64:Int)) || (↑R.length:Int) != (↑E.length:Int))∧(decide ((↑E.length:Int) > (64:Int)) || (↑R.length:Int) != (↑E.length:Int) || decide ((↑M.length:Int) > (8:Int)))=(decide ((↑E.length:Int) > (64:Int)) || (↑R.length:Int) != (↑E.length:Int) || decide ((↑M.length:Int) > (8:Int)))∧(decide ((↑E.length:Int) > (64:Int)) || (↑R.length:Int) != (↑E.length:Int) || decide ((↑M.length:Int) > (8:Int)))=(decide ((↑E.length:Int) > (64:Int)) || (↑R.length:Int) != (↑E.length:Int) || decide ((↑M.length:Int) > (8:Int)))∧false=false∧(↑x_1:Int)=(↑x_1:Int)∧True∧E.length=E.length∧(↑E.length:Int)=(↑E.length:Int)∧false=false∧(↑x_2:Int)=(↑x_2:Int)∧True∧M.length=M.length∧(↑M.length:Int)=(↑M.length:Int)∧true=true∧True)∧eqA E.length (l5 E)∧eqA R.length (i9 R)∧eqA M.length (j8 M)∧(E.length=E.length∧R.length=R.length∧M.length=M.length)∧True))∧(decide ((↑x_4:Int) < (↑E.length:Int))=false→((0:Int) ≤
 (↑x_2:Int)∧(↑x_2:Int) < (↑M.length:Int))∧x_2 < M.length∧(((↑(b6 [] M x_2).length:Int) != a5t E (↑x_3:Int) x_4)=true→false=b8 E R M)∧(((↑(b6 [] M x_2).length:Int) != a5t E (↑x_3:Int) x_4)=false→∃(x_5:Nat),(x_5≤M.length∧t5 (a4l E M) x_5=true)∧((PLoop.of (lAl (a4l E M) M.length (4:Nat))).ann x).mu x_5 < ((PLoop.of (lAl (a4l E M) M.length (4:Nat))).ann x).mu x_2∧((E.length=E.length∧R.length=R.length∧M.length=M.length)∧True∧(↑x_1:Int)=(↑x_1:Int)∧IntKind.i64.wrap ((↑x_2:Int) + (1:Int))=(↑x_5:Int)∧True∧E.length=E.length∧(↑E.length:Int)=(↑E.length:Int)∧decide ((↑E.length:Int) > (64:Int))=decide ((↑E.length:Int) > (64:Int))∧decide ((↑E.length:Int) > (64:Int))=decide ((↑E.length:Int) > (64:Int))∧(decide ((↑E.length:Int) > (64:Int)) || (↑R.length:Int) != (↑E.length:Int))=(decide ((↑E.length:Int) > (64:Int)) || (↑R.length:Int) != (↑E.length:Int))∧(decide ((↑E.length:Int) > (64:Int)) || (↑R.length:Int) != (↑E.length:Int))=(decide ((↑E.length:Int) > (64:Int)) || (↑R.length:Int) != (↑E.length:Int))∧(decide ((↑E.length:Int) > (64:Int)) || (↑R.length:Int) != (↑E.length:Int) || decide ((↑M.length:Int) > (8:Int)))=(decide ((↑E.length:Int) > (64:Int)) || (↑R.length:Int) != (↑E.length:Int) || decide ((↑M.length:Int) > (8:Int)))∧(decide ((↑E.length:Int) > (64:Int)) || (↑R.length:Int) !=
 (↑E.length:Int) || decide ((↑M.length:Int) > (8:Int)))=(decide ((↑E.length:Int) > (64:Int)) || (↑R.length:Int) != (↑E.length:Int) || decide ((↑M.length:Int) > (8:Int)))∧false=false∧(↑x_1:Int)=(↑x_1:Int)∧True∧E.length=E.length∧(↑E.length:Int)=(↑E.length:Int)∧false=false∧True)∧eqA E.length (l5 E)∧eqA R.length (i9 R)∧eqA M.length (j8 M)∧(E.length=E.length∧R.length=R.length∧M.length=M.length)∧True)))∧(decide ((↑x_2:Int) < (↑M.length:Int))=false→true=b8 E R M)))):=by kernel_rfl
theorem v34 (E:List Ev) (R:List Int) (M:List (List Int)) (h:SzG E M):q34D E R M:=by
 rw[d6q]
 have hL:E.length≤1099511627776:=h.1
 have hrow:M.length≤8→∀ o,o < M.length→(b6 [] M o).length≤1099511627776:=fun h8 o ho=>h.2 h8 _ (by rw[s4 [] M _ ho]; exact z2f ho)
 simp only[eq_self,true_and,and_true,z0n,imp_self,l7,l8,n6,g7,g9,PLoop.of,p9,AV.len,i5,z0s,j4,j7,j6,l9,m4,m5,lAl,c3p]
 refine⟨fun _=>hL,fun h1=>?_,fun h1=>?_⟩
 ·cases hv:b8 E R M with
  | false=>rfl
  | true =>
   exfalso
   simp only[b8,z0d,z1p] at hv
   obtain⟨⟨⟨⟨⟨a1,a2⟩,a3⟩,a4⟩,a5⟩,a6⟩:=hv
   simp[a4,a2] at h1
   omega
 have hh:E.length≤64∧R.length=E.length∧M.length≤8∧a6u E M.length=true:=by
  simp at h1
  refine⟨?_,?_,?_,?_⟩ <;> first | omega | exact h1.2
 obtain⟨a1,a2,a3,a4⟩:=hh
 have hrow:=hrow a3
 have hv:b8 E R M=(t5 (a18 E R) E.length && t5 (a4l E M) M.length):=by simp[b8,a1,a2,a3,a4]
 refine⟨(),⟨0,⟨by omega,rfl⟩,rfl⟩,fun i hi=>⟨fun hlt=>?_,fun hlt=>?_⟩⟩
 ·have hi2:i < E.length:=by have:=z0e hlt; omega
  refine⟨⟨⟨by omega,by omega⟩,a2⟩,fun hs=>?_,fun hs=>⟨i + 1,⟨by omega,?_⟩,by omega,wrS (n:=E.length) hi2 hL⟩⟩
  ·rw[hv,a3k (j:=i) hi2 (by simpa using hs)]; rfl
  ·simp only[t5,hi.2,z1l]; simpa using hs
 have hi2:i=E.length:=by have:=z0m hlt; omega
 have hsrc:t5 (a18 E R) E.length=true:=by have:=hi.2; rwa [hi2] at this
 rw[hv,hsrc,z1l]
 refine⟨(),⟨0,⟨by omega,rfl⟩,rfl⟩,fun o ho=>⟨fun hlo=>?_,fun hlo=>?_⟩⟩
 ·have ho2:o < M.length:=by have:=z0e hlo; omega
  refine⟨o,⟨0,⟨by omega,ho2,rfl⟩,rfl,rfl⟩,fun j hj=>⟨fun hlj=>?_,fun hlj=>?_⟩⟩
  ·have hj2:j < E.length:=by have:=z0e hlj; omega
   have e:a8a E M o j = !((wrE (b6 e0 E j) && (b6 e0 E j).ob == o) && decide (a4v (b6 [] M o) j < 0)):=rfl
   have ew:a2f E o j=(wrE (b6 e0 E j) && (b6 e0 E j).ob == o):=rfl
   have hc:=d1k E o j
   have hw1:=wrS (n:=E.length) hj2 hL
   refine⟨⟨by omega,by omega⟩,hj2,fun _=>⟨by omega,by omega⟩,fun _=>hj2,fun hw=>⟨⟨by omega,by omega⟩,ho2,hrow o ho2,fun hp=>?_,fun hp=>⟨j + 1,⟨by omega,ho2,?_⟩,by omega,?_,hw1⟩⟩,fun hw=>⟨j + 1,⟨by omega,ho2,?_⟩,by omega,?_,hw1⟩⟩
   ·refine(a3k ho2 ?_).symm
    rw[a4l,a3k (j:=j) hj2 (by rw[e,hw,hp]; rfl)]; rfl
   ·simp only[t5,hj.2.2,z1l]; rw[e,hp]; simp
   ·simp only[a5t]; rw[ew,hw,z0g]; exact a2x (by omega) (by omega)
   ·simp only[t5,hj.2.2,z1l]; rw[e,hw]; rfl
   ·simp only[a5t]; rw[ew,hw,z0l]
  ·have hj2:j=E.length:=by have:=z0m hlj; omega
   have hall:t5 (a8a E M o) E.length=true:=by have:=hj.2.2; rwa [hj2] at this
   have e:a4l E M o=(((b6 [] M o).length:Int) == a5t E o E.length):=by rw[a4l,hall,z1l]; rfl
   rw[hj2]
   refine⟨⟨by omega,by omega⟩,ho2,fun hc=>?_,fun hc=>⟨o + 1,⟨by omega,?_⟩,by omega,wrS (n:=M.length) ho2 (by omega)⟩⟩
   ·refine(a3k ho2 ?_).symm
    rw[e]; simpa using hc
   ·simp only[t5,ho.2,z1l]; rw[e]; simpa using hc
 ·have ho2:o=M.length:=by have:=z0m hlo; omega
  have:=ho.2
  rw[ho2] at this
  exact this.symm
theorem n34 (nm:List (Option AV)):CallOk Tryz.prog [] 34 (o5 EL none nm [PG] c44):=x4 Tryz.func34 fo34 fun av pre rv h=>by
 unfold c44 at h; split at h <;> cases h
 exact⟨⟨rfl,fun t a e=>by cases e <;> exact z0h _ _⟩,fun hp=>⟨_,v34 _ _ _ (hp _ (.head _)),rfl,(m6 (n82 _) (m6 (n83 _) (m6 (n84 _) (m6 (n66 _) t8)))),t9⟩⟩
def relE (err N:Int):Nat→SV:=fun n=>.tup [a83 N n,.i .i64 err]
def a81 (v:Bool) (N:Int) (l:List Pq):QV:=.rv (.sl (relE (bif v then 0 else 1) (bif v then N else 0)) (.ps (i4 v l)))
def d66:SpG:=fun
 | [.ag [.es E,.is R,.rs M],.st s]=>some ([SzG E M∧L40 s.size],a81 (b8 E R M) E.length (b7 E.length (d9 s E R M)))
 | _=>none
def c9o (nm:List (Option AV)):Nat × (List MBlk→List SV→Option AR):=(50,o5 EL none nm [PG,.st] d66)
theorem a02 {E:List Ev} {R:List Int} {M:List (List Int)} (hv:b8 E R M=true) (hs:SzG E M):GOk E R M∧E.length≤64:=by
 simp only[b8,z0d,z1p] at hv
 obtain⟨⟨⟨⟨⟨a1,a2⟩,a3⟩,a4⟩,a5⟩,a6⟩:=hv
 have hev:∀ i:Int,0≤i→i < E.length→a6d E M.length i=true:=fun i h0 h1=>by
  have:=a2g.1 a4 i.toNat (by omega)
  rwa [z1b h0] at this
 have hsr:∀ i:Int,0≤i→i < E.length→a18 E R i=true:=fun i h0 h1=>by
  have:=a2g.1 a5 i.toNat (by omega)
  rwa [z1b h0] at this
 have hin:∀ j:Int,0≤j→j < E.length→inA R j < E.length∧(rdE (evA E j)=true→inA R j = -1∨(0≤inA R j∧inA R j < E.length)):=fun j h0 h1=>by
  have h:=hsr j h0 h1
  unfold a18 at h
  cases hr:rdE (evA E j)
  ·rw[hr] at h
   simp at h
   exact⟨by omega,fun h=>by cases h⟩
  ·rw[hr] at h
   by_cases hb:inA R j < 0∨inA R j ≥ E.length
   ·have e:(decide (inA R j < 0) || decide (inA R j ≥ E.length))=true:=by simpa using hb
    simp only[z3e,z0l,e,z0g,beq_iff_eq] at h
    exact⟨by omega,fun _=>.inl h⟩
   ·exact⟨by omega,fun _=>.inr ⟨by omega,by omega⟩⟩
 refine⟨⟨⟨hs.2 a3,fun i h0 h1 hw=>?_⟩,⟨a2,fun j h0 h1=>(hin j h0 h1).1⟩,hs.1,fun j h0 h1=>(hin j h0 h1).2⟩,a1⟩
 have h:=hev i h0 h1
 simp only[a6d,z0d,hw,Bool.or_true,z1l,z0v,z1g] at h
 have hv:=h.1.1.1.1.1
 simp only[q7,z0d] at hv
 have ho:a1p (evA E i)=true:=hv.1.1.1.1.1.1.1.1.2
 have hk:(evA E i).k=2∨(evA E i).k=5:=by simpa [wrE] using hw
 refine⟨?_,by omega⟩
 rcases hk with hk | hk <;> simp[a1p,hk,t7] at ho <;> omega
theorem fo50:o6 Tryz.prog 50:=⟨Tryz.f50,Tryz.func50,by kernel_rfl,by kernel_rfl⟩
def q50D (E:List Ev) (R:List Int) (M:List (List Int)) (s:ByteArray):Prop:=n7 (({ calls:=[d67 (nmG E R M),kUni (nmG E R M)] }:Kit)).tab Tryz.f50 [grV E R M,.v (.string s)] (grM E R M) ((a81 (b8 E R M) E.length (b7 E.length (d9 s E R M))).post EL)
theorem d6e (E:List Ev) (R:List Int) (M:List (List Int)) (s:ByteArray):q50D E R M s=(E.length=E.length∧R.length=R.length∧M.length=M.length∧nE E∧nI R∧nR M∧(E.length≤(1099511627776:Nat)∧(M.length≤(8:Nat)→∀(r:List Int),List.Mem r M→r.length≤(1099511627776:Nat)))∧((!b8 E R M)=true→(AV.ps (i4 (b8 E R M) (b7 (↑E.length:Int) (d9 s E R M)))).len=(0:Nat)∧(((0:Int)=bif b8 E R M then(↑E.length:Int) else(0:Int))∧(AV.ps (i4 (b8 E R M) (b7 (↑E.length:Int) (d9 s E R M)))).len=(0:Nat)∧True)∧((1:Int)=bif b8 E R M then(0:Int) else(1:Int))∧True)∧((!b8 E R M)=false→E.length=E.length∧R.length=R.length∧M.length=M.length∧nE E∧nI R∧nR M∧((((∀(r:List Int),List.Mem r M→r.length≤(1099511627776:Nat))∧∀(i:Int),(0:Int)≤i→i < (↑E.length:Int)→wrE (evA E i)=true→(0:Int)≤(evA E i).ob∧(evA E i).ob < (↑M.length:Int))∧(R.length=E.length∧∀(j:Int),(0:Int)≤j→j < (↑E.length:Int)→inA R j < (↑E.length:Int))∧E.length≤(1099511627776:Nat)∧∀(j:Int),(0:Int)≤j→j < (↑E.length:Int)→rdE (evA E j)=true→inA R j=(-1:Int)∨(0:Int)≤inA R j∧inA R j < (↑E.length:Int))∧E.length≤(64:Nat)∧s.size≤(1099511627776:Nat))∧(AV.ps (b7 (↑E.length:Int) (d9 s E R M))).len=(AV.ps (i4 (b8 E R M) (b7 (↑E.length:Int) (d9 s E R M)))).len∧((∀(j:Nat),j < (AV.ps (i4 (b8 E R M) (b7 (↑E.length:Int) (d9 s E R M)))).len→(b6 ((0:Int),(0
 : Int)) (b7 (↑E.length:Int) (d9 s E R M)) j).fst=(b6 ((0:Int),(0:Int)) (i4 (b8 E R M) (b7 (↑E.length:Int) (d9 s E R M))) j).fst)∧(∀(j:Nat),j < (AV.ps (i4 (b8 E R M) (b7 (↑E.length:Int) (d9 s E R M)))).len→(b6 ((0:Int),(0:Int)) (b7 (↑E.length:Int) (d9 s E R M)) j).snd=(b6 ((0:Int),(0:Int)) (i4 (b8 E R M) (b7 (↑E.length:Int) (d9 s E R M))) j).snd)∧True)∧(((↑E.length:Int)=bif b8 E R M then(↑E.length:Int) else(0:Int))∧(AV.ps (b7 (↑E.length:Int) (d9 s E R M))).len=(AV.ps (i4 (b8 E R M) (b7 (↑E.length:Int) (d9 s E R M)))).len∧True)∧((0:Int)=bif b8 E R M then(0:Int) else(1:Int))∧True)):=by kernel_rfl
theorem v50 (E:List Ev) (R:List Int) (M:List (List Int)) (s:ByteArray) (h:SzG E M∧L40 s.size):q50D E R M s:=by
 rw[d6e]
 cases hv:b8 E R M
 ·simp only[eq_self,true_and,and_true,z0n,imp_self,l7,l8,n6,g7,g9,PLoop.of,p9,AV.len,i5,z0s,j4,j7,j6,l9,m4,m5,i4,z0l,z2y]
  exact⟨⟨h.1.1,h.1.2⟩,by simp⟩
 ·obtain⟨hG,hN⟩:=a02 hv h.1
  simp only[eq_self,true_and,and_true,z0n,imp_self,l7,l8,n6,g7,g9,PLoop.of,p9,AV.len,i5,z0s,j4,j7,j6,l9,m4,m5,i4,z0g,z3e]
  exact⟨⟨h.1.1,h.1.2⟩,by simp,⟨⟨hG.1.1,hG.1.2⟩,⟨hG.2.1.1,hG.2.1.2⟩,hG.2.2.1,hG.2.2.2⟩,hN,h.2⟩
theorem n50 (nm:List (Option AV)):CallOk Tryz.prog [] 50 (o5 EL none nm [PG,.st] d66):=x4 Tryz.func50 fo50 fun av pre rv h=>by
 unfold d66 at h; split at h <;> cases h
 exact⟨⟨rfl,fun t a e=>by cases e <;> exact z0h _ _⟩,fun hp=>⟨_,v50 _ _ _ _ (hp _ (.head _)),rfl,(m6 (n34 _) (m6 (n107 _) t8)),t9⟩⟩
def a1a (fn:GF):SpG:=fun
 | [.ag [.es E,.is R,.rs M]]=>some ([SzG E M],a81 (b8 E R M) E.length (b7 E.length (fn E R M)))
 | _=>none
theorem fo12:o6 Tryz.prog 12:=⟨Tryz.f12,Tryz.func12,by kernel_rfl,by kernel_rfl⟩
def q12D (E:List Ev) (R:List Int) (M:List (List Int)):Prop:=n7 (({ calls:=[c9o (nmG E R M)] }:Kit)).tab Tryz.f12 [grV E R M] (grM E R M) ((a81 (b8 E R M) E.length (b7 E.length (d9 ⟨#[102]⟩ E R M))).post EL)
theorem d6b (E:List Ev) (R:List Int) (M:List (List Int)):q12D E R M=(E.length=E.length∧R.length=R.length∧M.length=M.length∧nE E∧nI R∧nR M∧((E.length≤(1099511627776:Nat)∧(M.length≤(8:Nat)→∀(r:List Int),List.Mem r M→r.length≤(1099511627776:Nat)))∧(ByteArray.mk #[(102:UInt8)]).size≤(1099511627776:Nat))∧(AV.ps (i4 (b8 E R M) (b7 (↑E.length:Int) (d9 (ByteArray.mk #[(102:UInt8)]) E R M)))).len=(AV.ps (i4 (b8 E R M) (b7 (↑E.length:Int) (d9 (ByteArray.mk #[(102:UInt8)]) E R M)))).len∧((∀(j:Nat),j < (AV.ps (i4 (b8 E R M) (b7 (↑E.length:Int) (d9 (ByteArray.mk #[(102:UInt8)]) E R M)))).len→(b6 ((0:Int),(0:Int)) (i4 (b8 E R M) (b7 (↑E.length:Int) (d9 (ByteArray.mk #[(102:UInt8)]) E R M))) j).fst=(b6 ((0:Int),(0:Int)) (i4 (b8 E R M) (b7 (↑E.length:Int) (d9 (ByteArray.mk #[(102:UInt8)]) E R M))) j).fst)∧(∀(j:Nat),j < (AV.ps (i4 (b8 E R M) (b7 (↑E.length:Int) (d9 (ByteArray.mk #[(102:UInt8)]) E R M)))).len→(b6 ((0:Int),(0:Int)) (i4 (b8 E R M) (b7 (↑E.length:Int) (d9 (ByteArray.mk #[(102:UInt8)]) E R M))) j).snd=(b6 ((0:Int),(0:Int)) (i4 (b8 E R M) (b7 (↑E.length:Int) (d9 (ByteArray.mk #[(102:UInt8)]) E R M))) j).snd)∧True)∧(((bif b8 E R M then(↑E.length:Int) else(0:Int))=bif b8 E R M then(↑E.length:Int) else(0:Int))∧(AV.ps (i4 (b8 E R M) (b7 (↑E.length:Int) (d9 (ByteArray.mk #[(102:UInt8)]) E R
 M)))).len=(AV.ps (i4 (b8 E R M) (b7 (↑E.length:Int) (d9 (ByteArray.mk #[(102:UInt8)]) E R M)))).len∧True)∧((bif b8 E R M then(0:Int) else(1:Int))=bif b8 E R M then(0:Int) else(1:Int))∧True):=by kernel_rfl
theorem v12 (E:List Ev) (R:List Int) (M:List (List Int)) (h:SzG E M):q12D E R M:=by
 rw[d6b]
 simp only[eq_self,true_and,and_true,z0n,imp_self,l7,l8,n6,g7,g9,PLoop.of,p9,AV.len,i5,z0s,j4,j7,j6,l9,m4,m5]
 exact⟨⟨h.1,h.2⟩,by decide⟩
theorem n12 (nm:List (Option AV)):CallOk Tryz.prog [] 12 (o5 EL none nm [PG] (a1a (d9 ⟨#[102]⟩))):=x4 Tryz.func12 fo12 fun av pre rv h=>by
 unfold a1a at h; split at h <;> cases h
 exact⟨⟨rfl,fun t a e=>by cases e <;> exact z0h _ _⟩,fun hp=>⟨_,v12 _ _ _ (hp _ (.head _)),rfl,(m6 (n50 _) t8),t9⟩⟩
theorem fo14:o6 Tryz.prog 14:=⟨Tryz.f14,Tryz.func14,by kernel_rfl,by kernel_rfl⟩
def q14D (E:List Ev) (R:List Int) (M:List (List Int)):Prop:=n7 (({ calls:=[c9o (nmG E R M)] }:Kit)).tab Tryz.f14 [grV E R M] (grM E R M) ((a81 (b8 E R M) E.length (b7 E.length (d9 ⟨#[119]⟩ E R M))).post EL)
theorem d50 (E:List Ev) (R:List Int) (M:List (List Int)):q14D E R M=(E.length=E.length∧R.length=R.length∧M.length=M.length∧nE E∧nI R∧nR M∧((E.length≤(1099511627776:Nat)∧(M.length≤(8:Nat)→∀(r:List Int),List.Mem r M→r.length≤(1099511627776:Nat)))∧(ByteArray.mk #[(119:UInt8)]).size≤(1099511627776:Nat))∧(AV.ps (i4 (b8 E R M) (b7 (↑E.length:Int) (d9 (ByteArray.mk #[(119:UInt8)]) E R M)))).len=(AV.ps (i4 (b8 E R M) (b7 (↑E.length:Int) (d9 (ByteArray.mk #[(119:UInt8)]) E R M)))).len∧((∀(j:Nat),j < (AV.ps (i4 (b8 E R M) (b7 (↑E.length:Int) (d9 (ByteArray.mk #[(119:UInt8)]) E R M)))).len→(b6 ((0:Int),(0:Int)) (i4 (b8 E R M) (b7 (↑E.length:Int) (d9 (ByteArray.mk #[(119:UInt8)]) E R M))) j).fst=(b6 ((0:Int),(0:Int)) (i4 (b8 E R M) (b7 (↑E.length:Int) (d9 (ByteArray.mk #[(119:UInt8)]) E R M))) j).fst)∧(∀(j:Nat),j < (AV.ps (i4 (b8 E R M) (b7 (↑E.length:Int) (d9 (ByteArray.mk #[(119:UInt8)]) E R M)))).len→(b6 ((0:Int),(0:Int)) (i4 (b8 E R M) (b7 (↑E.length:Int) (d9 (ByteArray.mk #[(119:UInt8)]) E R M))) j).snd=(b6 ((0:Int),(0:Int)) (i4 (b8 E R M) (b7 (↑E.length:Int) (d9 (ByteArray.mk #[(119:UInt8)]) E R M))) j).snd)∧True)∧(((bif b8 E R M then(↑E.length:Int) else(0:Int))=bif b8 E R M then(↑E.length:Int) else(0:Int))∧(AV.ps (i4 (b8 E R M) (b7 (↑E.length:Int) (d9 (ByteArray.mk #[(119:UInt8)]) E R
 M)))).len=(AV.ps (i4 (b8 E R M) (b7 (↑E.length:Int) (d9 (ByteArray.mk #[(119:UInt8)]) E R M)))).len∧True)∧((bif b8 E R M then(0:Int) else(1:Int))=bif b8 E R M then(0:Int) else(1:Int))∧True):=by kernel_rfl
theorem v14 (E:List Ev) (R:List Int) (M:List (List Int)) (h:SzG E M):q14D E R M:=by
 rw[d50]
 simp only[eq_self,true_and,and_true,z0n,imp_self,l7,l8,n6,g7,g9,PLoop.of,p9,AV.len,i5,z0s,j4,j7,j6,l9,m4,m5]
 exact⟨⟨h.1,h.2⟩,by decide⟩
theorem n14 (nm:List (Option AV)):CallOk Tryz.prog [] 14 (o5 EL none nm [PG] (a1a (d9 ⟨#[119]⟩))):=x4 Tryz.func14 fo14 fun av pre rv h=>by
 unfold a1a at h; split at h <;> cases h
 exact⟨⟨rfl,fun t a e=>by cases e <;> exact z0h _ _⟩,fun hp=>⟨_,v14 _ _ _ (hp _ (.head _)),rfl,(m6 (n50 _) t8),t9⟩⟩
def a46 (n:Nat) (f:Pf):List Pq:=b7 n (wF (d5 (b7 n f)) n)
def b1b (fn:GF):SpG:=fun
 | [.ag [.es E,.is R,.rs M]]=>some ([SzG E M],a81 (b8 E R M) E.length (a46 E.length (fn E R M)))
 | _=>none
theorem b2h (f:Pf) {n:Nat} (hN:n≤64):(b7 n f).length≤1099511627776:=by
 rw[a3x]
 have h1:=a27 f n n
 have h3:n * n≤64 * 64:=z2i (by omega) (by omega)
 omega
theorem fo16:o6 Tryz.prog 16:=⟨Tryz.f16,Tryz.func16,by kernel_rfl,by kernel_rfl⟩
def q16D (E:List Ev) (R:List Int) (M:List (List Int)):Prop:=n7 (({ calls:=[c9o (nmG E R M),d3y (no 5 ++ [some (.ps (i4 (b8 E R M) (b7 E.length (d9 ⟨#[112,115,119]⟩ E R M))))])] }:Kit)).tab Tryz.f16 [grV E R M] (grM E R M) ((a81 (b8 E R M) E.length (a46 E.length (d9 ⟨#[112,115,119]⟩ E R M))).post EL)
theorem d6s (E:List Ev) (R:List Int) (M:List (List Int)):q16D E R M=(E.length=E.length∧R.length=R.length∧M.length=M.length∧nE E∧nI R∧nR M∧((E.length≤(1099511627776:Nat)∧(M.length≤(8:Nat)→∀(r:List Int),List.Mem r M→r.length≤(1099511627776:Nat)))∧(ByteArray.mk #[(112:UInt8),(115:UInt8),(119:UInt8)]).size≤(1099511627776:Nat))∧(((bif b8 E R M then(0:Int) else(1:Int)) != (0:Int))=true→(AV.ps (i4 (b8 E R M) (a46 E.length (d9 (ByteArray.mk #[(112:UInt8),(115:UInt8),(119:UInt8)]) E R M)))).len=(0:Nat)∧(((0:Int)=bif b8 E R M then(↑E.length:Int) else(0:Int))∧(AV.ps (i4 (b8 E R M) (a46 E.length (d9 (ByteArray.mk #[(112:UInt8),(115:UInt8),(119:UInt8)]) E R M)))).len=(0:Nat)∧True)∧((bif b8 E R M then(0:Int) else(1:Int))=bif b8 E R M then(0:Int) else(1:Int))∧True)∧(((bif b8 E R M then(0:Int) else(1:Int)) != (0:Int))=false→(AV.ps (i4 (b8 E R M) (b7 (↑E.length:Int) (d9 (ByteArray.mk #[(112:UInt8),(115:UInt8),(119:UInt8)]) E R M)))).len=(AV.ps (i4 (b8 E R M) (b7 (↑E.length:Int) (d9 (ByteArray.mk #[(112:UInt8),(115:UInt8),(119:UInt8)]) E R M)))).len∧mkN (fun(j:Nat)=>((b6 ((0:Int),(0:Int)) (i4 (b8 E R M) (b7 (↑E.length:Int) (d9 (ByteArray.mk #[(112:UInt8),(115:UInt8),(119:UInt8)]) E R M))) j).fst,(b6 ((0:Int),(0:Int)) (i4 (b8 E R M) (b7 (↑E.length:Int) (d9 (ByteArray.mk #[(112:UInt8),
 (115:UInt8),(119:UInt8)]) E R M))) j).snd)) (AV.ps (i4 (b8 E R M) (b7 (↑E.length:Int) (d9 (ByteArray.mk #[(112:UInt8),(115:UInt8),(119:UInt8)]) E R M)))).len=i4 (b8 E R M) (b7 (↑E.length:Int) (d9 (ByteArray.mk #[(112:UInt8),(115:UInt8),(119:UInt8)]) E R M))∧(i4 (b8 E R M) (b7 (↑E.length:Int) (d9 (ByteArray.mk #[(112:UInt8),(115:UInt8),(119:UInt8)]) E R M))).length≤(1099511627776:Nat)∧(AV.ps (bif d6 (bif b8 E R M then(↑E.length:Int) else(0:Int)) (i4 (b8 E R M) (b7 (↑E.length:Int) (d9 (ByteArray.mk #[(112:UInt8),(115:UInt8),(119:UInt8)]) E R M))) then b7 (bif b8 E R M then(↑E.length:Int) else(0:Int)) (wF (d5 (i4 (b8 E R M) (b7 (↑E.length:Int) (d9 (ByteArray.mk #[(112:UInt8),(115:UInt8),(119:UInt8)]) E R M)))) (bif b8 E R M then(↑E.length:Int) else(0:Int)).toNat) else [])).len=(AV.ps (i4 (b8 E R M) (a46 E.length (d9 (ByteArray.mk #[(112:UInt8),(115:UInt8),(119:UInt8)]) E R M)))).len∧((∀(j:Nat),j < (AV.ps (i4 (b8 E R M) (a46 E.length (d9 (ByteArray.mk #[(112:UInt8),(115:UInt8),(119:UInt8)]) E R M)))).len→(b6 ((0:Int),(0:Int)) (bif d6 (bif b8 E R M then(↑E.length:Int) else(0:Int)) (i4 (b8 E R M) (b7 (↑E.length:Int) (d9 (ByteArray.mk #[(112:UInt8),(115:UInt8),(119:UInt8)]) E R M))) then b7 (bif b8 E R M then(↑E.length:Int) else(0
 : Int)) (wF (d5 (i4 (b8 E R M) (b7 (↑E.length:Int) (d9 (ByteArray.mk #[(112:UInt8),(115:UInt8),(119:UInt8)]) E R M)))) (bif b8 E R M then(↑E.length:Int) else(0:Int)).toNat) else []) j).fst=(b6 ((0:Int),(0:Int)) (i4 (b8 E R M) (a46 E.length (d9 (ByteArray.mk #[(112:UInt8),(115:UInt8),(119:UInt8)]) E R M))) j).fst)∧(∀(j:Nat),j < (AV.ps (i4 (b8 E R M) (a46 E.length (d9 (ByteArray.mk #[(112:UInt8),(115:UInt8),(119:UInt8)]) E R M)))).len→(b6 ((0:Int),(0:Int)) (bif d6 (bif b8 E R M then(↑E.length:Int) else(0:Int)) (i4 (b8 E R M) (b7 (↑E.length:Int) (d9 (ByteArray.mk #[(112:UInt8),(115:UInt8),(119:UInt8)]) E R M))) then b7 (bif b8 E R M then(↑E.length:Int) else(0:Int)) (wF (d5 (i4 (b8 E R M) (b7 (↑E.length:Int) (d9 (ByteArray.mk #[(112:UInt8),(115:UInt8),(119:UInt8)]) E R M)))) (bif b8 E R M then(↑E.length:Int) else(0:Int)).toNat) else []) j).snd=(b6 ((0:Int),(0:Int)) (i4 (b8 E R M) (a46 E.length (d9 (ByteArray.mk #[(112:UInt8),(115:UInt8),(119:UInt8)]) E R M))) j).snd)∧True)∧(((bif d6 (bif b8 E R M then(↑E.length:Int) else(0:Int)) (i4 (b8 E R M) (b7 (↑E.length:Int) (d9 (ByteArray.mk #[(112:UInt8),(115:UInt8),(119:UInt8)]) E R M))) then bif b8 E R M then(↑E.length:Int) else(0:Int) else(0:Int))=bif b8 E R M then(↑E.length:Int)
 else(0:Int))∧(AV.ps (bif d6 (bif b8 E R M then(↑E.length:Int) else(0:Int)) (i4 (b8 E R M) (b7 (↑E.length:Int) (d9 (ByteArray.mk #[(112:UInt8),(115:UInt8),(119:UInt8)]) E R M))) then b7 (bif b8 E R M then(↑E.length:Int) else(0:Int)) (wF (d5 (i4 (b8 E R M) (b7 (↑E.length:Int) (d9 (ByteArray.mk #[(112:UInt8),(115:UInt8),(119:UInt8)]) E R M)))) (bif b8 E R M then(↑E.length:Int) else(0:Int)).toNat) else [])).len=(AV.ps (i4 (b8 E R M) (a46 E.length (d9 (ByteArray.mk #[(112:UInt8),(115:UInt8),(119:UInt8)]) E R M)))).len∧True)∧((0:Int)=bif b8 E R M then(0:Int) else(1:Int))∧True)):=by kernel_rfl
theorem v16 (E:List Ev) (R:List Int) (M:List (List Int)) (h:SzG E M):q16D E R M:=by
 rw[d6s]
 have hd:(ByteArray.mk #[112,115,119]).size≤1099511627776:=by decide
 cases hv:b8 E R M
 ·simp only[eq_self,true_and,and_true,z0n,imp_self,l7,l8,n6,g7,g9,PLoop.of,p9,AV.len,i5,z0s,j4,j7,j6,l9,m4,m5,i4,z0l]
  exact⟨⟨⟨h.1,h.2⟩,hd⟩,by simp⟩
 ·obtain⟨hG,hN⟩:=a02 hv h
  have e1:d6 (E.length:Int) (b7 E.length (d9 ⟨#[112,115,119]⟩ E R M))=true:=by rw[a3x]; exact(a5d _ hN).1
  have e2:=b2h (d9 ⟨#[112,115,119]⟩ E R M) hN
  simp only[eq_self,true_and,and_true,z0n,imp_self,l7,l8,n6,g7,g9,PLoop.of,p9,AV.len,i5,z0s,j4,j7,j6,l9,m4,m5,i4,z0g,e1,a46,z2g]
  exact⟨⟨⟨h.1,h.2⟩,hd⟩,by simp,fun _=>e2⟩
theorem n16 (nm:List (Option AV)):CallOk Tryz.prog [] 16 (o5 EL none nm [PG] (b1b (d9 ⟨#[112,115,119]⟩))):=x4 Tryz.func16 fo16 fun av pre rv h=>by
 unfold b1b at h; split at h <;> cases h
 exact⟨⟨rfl,fun t a e=>by cases e <;> exact z0h _ _⟩,fun hp=>⟨_,v16 _ _ _ (hp _ (.head _)),rfl,(m6 (n50 _) (m6 (n59 _) t8)),t9⟩⟩
theorem fo18:o6 Tryz.prog 18:=⟨Tryz.f18,Tryz.func18,by kernel_rfl,by kernel_rfl⟩
def q18D (E:List Ev) (R:List Int) (M:List (List Int)):Prop:=n7 (({ calls:=[c9o (nmG E R M),d3y (no 5 ++ [some (.ps (i4 (b8 E R M) (b7 E.length (d9 ⟨#[114,109,102]⟩ E R M))))])] }:Kit)).tab Tryz.f18 [grV E R M] (grM E R M) ((a81 (b8 E R M) E.length (a46 E.length (d9 ⟨#[114,109,102]⟩ E R M))).post EL)
theorem d4p (E:List Ev) (R:List Int) (M:List (List Int)):q18D E R M=(E.length=E.length∧R.length=R.length∧M.length=M.length∧nE E∧nI R∧nR M∧((E.length≤(1099511627776:Nat)∧(M.length≤(8:Nat)→∀(r:List Int),List.Mem r M→r.length≤(1099511627776:Nat)))∧(ByteArray.mk #[(114:UInt8),(109:UInt8),(102:UInt8)]).size≤(1099511627776:Nat))∧(((bif b8 E R M then(0:Int) else(1:Int)) != (0:Int))=true→(AV.ps (i4 (b8 E R M) (a46 E.length (d9 (ByteArray.mk #[(114:UInt8),(109:UInt8),(102:UInt8)]) E R M)))).len=(0:Nat)∧(((0:Int)=bif b8 E R M then(↑E.length:Int) else(0:Int))∧(AV.ps (i4 (b8 E R M) (a46 E.length (d9 (ByteArray.mk #[(114:UInt8),(109:UInt8),(102:UInt8)]) E R M)))).len=(0:Nat)∧True)∧((bif b8 E R M then(0:Int) else(1:Int))=bif b8 E R M then(0:Int) else(1:Int))∧True)∧(((bif b8 E R M then(0:Int) else(1:Int)) != (0:Int))=false→(AV.ps (i4 (b8 E R M) (b7 (↑E.length:Int) (d9 (ByteArray.mk #[(114:UInt8),(109:UInt8),(102:UInt8)]) E R M)))).len=(AV.ps (i4 (b8 E R M) (b7 (↑E.length:Int) (d9 (ByteArray.mk #[(114:UInt8),(109:UInt8),(102:UInt8)]) E R M)))).len∧mkN (fun(j:Nat)=>((b6 ((0:Int),(0:Int)) (i4 (b8 E R M) (b7 (↑E.length:Int) (d9 (ByteArray.mk #[(114:UInt8),(109:UInt8),(102:UInt8)]) E R M))) j).fst,(b6 ((0:Int),(0:Int)) (i4 (b8 E R M) (b7 (↑E.length:Int) (d9 (ByteArray.mk #[(114:UInt8),
 (109:UInt8),(102:UInt8)]) E R M))) j).snd)) (AV.ps (i4 (b8 E R M) (b7 (↑E.length:Int) (d9 (ByteArray.mk #[(114:UInt8),(109:UInt8),(102:UInt8)]) E R M)))).len=i4 (b8 E R M) (b7 (↑E.length:Int) (d9 (ByteArray.mk #[(114:UInt8),(109:UInt8),(102:UInt8)]) E R M))∧(i4 (b8 E R M) (b7 (↑E.length:Int) (d9 (ByteArray.mk #[(114:UInt8),(109:UInt8),(102:UInt8)]) E R M))).length≤(1099511627776:Nat)∧(AV.ps (bif d6 (bif b8 E R M then(↑E.length:Int) else(0:Int)) (i4 (b8 E R M) (b7 (↑E.length:Int) (d9 (ByteArray.mk #[(114:UInt8),(109:UInt8),(102:UInt8)]) E R M))) then b7 (bif b8 E R M then(↑E.length:Int) else(0:Int)) (wF (d5 (i4 (b8 E R M) (b7 (↑E.length:Int) (d9 (ByteArray.mk #[(114:UInt8),(109:UInt8),(102:UInt8)]) E R M)))) (bif b8 E R M then(↑E.length:Int) else(0:Int)).toNat) else [])).len=(AV.ps (i4 (b8 E R M) (a46 E.length (d9 (ByteArray.mk #[(114:UInt8),(109:UInt8),(102:UInt8)]) E R M)))).len∧((∀(j:Nat),j < (AV.ps (i4 (b8 E R M) (a46 E.length (d9 (ByteArray.mk #[(114:UInt8),(109:UInt8),(102:UInt8)]) E R M)))).len→(b6 ((0:Int),(0:Int)) (bif d6 (bif b8 E R M then(↑E.length:Int) else(0:Int)) (i4 (b8 E R M) (b7 (↑E.length:Int) (d9 (ByteArray.mk #[(114:UInt8),(109:UInt8),(102:UInt8)]) E R M))) then b7 (bif b8 E R M then(↑E.length:Int) else(0
 : Int)) (wF (d5 (i4 (b8 E R M) (b7 (↑E.length:Int) (d9 (ByteArray.mk #[(114:UInt8),(109:UInt8),(102:UInt8)]) E R M)))) (bif b8 E R M then(↑E.length:Int) else(0:Int)).toNat) else []) j).fst=(b6 ((0:Int),(0:Int)) (i4 (b8 E R M) (a46 E.length (d9 (ByteArray.mk #[(114:UInt8),(109:UInt8),(102:UInt8)]) E R M))) j).fst)∧(∀(j:Nat),j < (AV.ps (i4 (b8 E R M) (a46 E.length (d9 (ByteArray.mk #[(114:UInt8),(109:UInt8),(102:UInt8)]) E R M)))).len→(b6 ((0:Int),(0:Int)) (bif d6 (bif b8 E R M then(↑E.length:Int) else(0:Int)) (i4 (b8 E R M) (b7 (↑E.length:Int) (d9 (ByteArray.mk #[(114:UInt8),(109:UInt8),(102:UInt8)]) E R M))) then b7 (bif b8 E R M then(↑E.length:Int) else(0:Int)) (wF (d5 (i4 (b8 E R M) (b7 (↑E.length:Int) (d9 (ByteArray.mk #[(114:UInt8),(109:UInt8),(102:UInt8)]) E R M)))) (bif b8 E R M then(↑E.length:Int) else(0:Int)).toNat) else []) j).snd=(b6 ((0:Int),(0:Int)) (i4 (b8 E R M) (a46 E.length (d9 (ByteArray.mk #[(114:UInt8),(109:UInt8),(102:UInt8)]) E R M))) j).snd)∧True)∧(((bif d6 (bif b8 E R M then(↑E.length:Int) else(0:Int)) (i4 (b8 E R M) (b7 (↑E.length:Int) (d9 (ByteArray.mk #[(114:UInt8),(109:UInt8),(102:UInt8)]) E R M))) then bif b8 E R M then(↑E.length:Int) else(0:Int) else(0:Int))=bif b8 E R M then(↑E.length:Int)
 else(0:Int))∧(AV.ps (bif d6 (bif b8 E R M then(↑E.length:Int) else(0:Int)) (i4 (b8 E R M) (b7 (↑E.length:Int) (d9 (ByteArray.mk #[(114:UInt8),(109:UInt8),(102:UInt8)]) E R M))) then b7 (bif b8 E R M then(↑E.length:Int) else(0:Int)) (wF (d5 (i4 (b8 E R M) (b7 (↑E.length:Int) (d9 (ByteArray.mk #[(114:UInt8),(109:UInt8),(102:UInt8)]) E R M)))) (bif b8 E R M then(↑E.length:Int) else(0:Int)).toNat) else [])).len=(AV.ps (i4 (b8 E R M) (a46 E.length (d9 (ByteArray.mk #[(114:UInt8),(109:UInt8),(102:UInt8)]) E R M)))).len∧True)∧((0:Int)=bif b8 E R M then(0:Int) else(1:Int))∧True)):=by kernel_rfl
theorem v18 (E:List Ev) (R:List Int) (M:List (List Int)) (h:SzG E M):q18D E R M:=by
 rw[d4p]
 have hd:(ByteArray.mk #[114,109,102]).size≤1099511627776:=by decide
 cases hv:b8 E R M
 ·simp only[eq_self,true_and,and_true,z0n,imp_self,l7,l8,n6,g7,g9,PLoop.of,p9,AV.len,i5,z0s,j4,j7,j6,l9,m4,m5,i4,z0l]
  exact⟨⟨⟨h.1,h.2⟩,hd⟩,by simp⟩
 ·obtain⟨hG,hN⟩:=a02 hv h
  have e1:d6 (E.length:Int) (b7 E.length (d9 ⟨#[114,109,102]⟩ E R M))=true:=by rw[a3x]; exact(a5d _ hN).1
  have e2:=b2h (d9 ⟨#[114,109,102]⟩ E R M) hN
  simp only[eq_self,true_and,and_true,z0n,imp_self,l7,l8,n6,g7,g9,PLoop.of,p9,AV.len,i5,z0s,j4,j7,j6,l9,m4,m5,i4,z0g,e1,a46,z2g]
  exact⟨⟨⟨h.1,h.2⟩,hd⟩,by simp,fun _=>e2⟩
theorem n18 (nm:List (Option AV)):CallOk Tryz.prog [] 18 (o5 EL none nm [PG] (b1b (d9 ⟨#[114,109,102]⟩))):=x4 Tryz.func18 fo18 fun av pre rv h=>by
 unfold b1b at h; split at h <;> cases h
 exact⟨⟨rfl,fun t a e=>by cases e <;> exact z0h _ _⟩,fun hp=>⟨_,v18 _ _ _ (hp _ (.head _)),rfl,(m6 (n50 _) (m6 (n59 _) t8)),t9⟩⟩
def b0a (E:List Ev) (j:Nat):Int→Option Int:=fun a=>bif a1q a E j == 0 then none else some (a1q a E j)
def lVe (E:List Ev) (m t r:Nat):LAnn:=p9 E.length t (fun j=>t5 (a6d E m) j=true) (fun j=>[(r,.mapi .i64 (some .i64) (b0a E j))]) []
def sVe:SpG:=fun
 | [.lf (.es E),.lf (.i m)]=>some ([L40 E.length∧0≤m],.rv (.pl (.b (a6u E m.toNat))))
 | _=>none
def kVe (nm:List (Option AV)):Nat × (List MBlk→List SV→Option AR):=(79,o5 EL gbT nm [.lf .es,.lf .i] sVe)
theorem c5t (E:List Ev) (j:Nat) (a:Int):a1g (b0a E j a)=a1q a E j:=by
 unfold b0a
 cases h:a1q a E j == 0
 ·rfl
 ·simp only[z0g,a1g]; simp at h; exact h.symm
theorem c3r {E:List Ev} {j:Nat} (hj:j < 1099511627776) (x:Int):(bif x == (b6 e0 E j).ag then some (IntKind.i64.wrap (a1q (b6 e0 E j).ag E j + 1)) else b0a E j x)=b0a E (j + 1) x:=by
 have h5:=b92 (b6 e0 E j).ag E j
 cases h:x == (b6 e0 E j).ag
 ·have h2:((b6 e0 E j).ag == x)=false:=by
   have:x≠(b6 e0 E j).ag:=by simpa using h
   simpa using fun e=>this e.symm
  simp only[z0l,b0a,a1q,h2]
 ·have h2:x=(b6 e0 E j).ag:=by simpa using h
  subst h2
  have h3:(a1q (b6 e0 E j).ag E j + 1 == 0)=false:=by simp; omega
  simp only[z0g,b0a,a1q,beq_self_eq_true,h3,z0l]
  rw[a2x (by omega) (by omega)]
theorem fo79:o6 Tryz.prog 79:=⟨Tryz.f79,Tryz.func79,by kernel_rfl,by kernel_rfl⟩
def q79D (E:List Ev) (m:Int):Prop:=n7 (({ g:=true,calls:=[kVE,kE1 80 rdE,kE1 81 wrE],loops:=[(0,.of (lVe E m.toNat 11 2))] }:Kit)).tab Tryz.f79 [.sl 1 E.length,.i .i64 m] [tbl,.arr E.length (l5 E)] (j9 (.b (a6u E m.toNat)))
theorem d5a (E:List Ev) (m:Int):q79D E m=(∃(x:PUnit),(∃(x:Nat),(x≤E.length∧t5 (a6d E m.toNat) x=true)∧((0:Int)=(↑x:Int)∧True)∧(∀(x_1:Int),none=b0a E x x_1)∧True)∧∀(x_1:Nat),x_1≤E.length∧t5 (a6d E m.toNat) x_1=true→(decide ((↑x_1:Int) < (↑E.length:Int))=true→((0:Int)≤(↑x_1:Int)∧(↑x_1:Int) < (↑E.length:Int))∧x_1 < E.length∧some (l4 [] (match i7 (((PLoop.of (lVe E m.toNat (11:Nat) (2:Nat))).ann x).mem x_1) (0:Nat) with | some v=>v | none=>l4 ((PLoop.of (lVe E m.toNat (11:Nat) (2:Nat))).ann x).kill tbl))=some tbl∧((!q7 (b6 e0 E x_1) || (b6 e0 E x_1).k == (3:Int) || (b6 e0 E x_1).k == (4:Int) || (b6 e0 E x_1).en != (-1:Int) || (b6 e0 E x_1).ix != a1g (b0a E x_1 (b6 e0 E x_1).ag))=true→false=a6u E m.toNat)∧((!q7 (b6 e0 E x_1) || (b6 e0 E x_1).k == (3:Int) || (b6 e0 E x_1).k == (4:Int) || (b6 e0 E x_1).en != (-1:Int) || (b6 e0 E x_1).ix != a1g (b0a E x_1 (b6 e0 E x_1).ag))=false→(((rdE (b6 e0 E x_1) || wrE (b6 e0 E x_1)) && decide ((b6 e0 E x_1).ob ≥ m))=true→false=a6u E m.toNat)∧(((rdE (b6 e0 E x_1) || wrE (b6 e0 E x_1)) && decide ((b6 e0 E x_1).ob ≥ m))=false→∃(x_2:Nat),(x_2≤E.length∧t5 (a6d E m.toNat) x_2=true)∧((PLoop.of (lVe E m.toNat (11:Nat) (2:Nat))).ann x).mu x_2 < ((PLoop.of (lVe E m.toNat (11:Nat) (2:Nat))).ann x).mu x_1∧(E.length=E.length∧m=m∧True∧True∧E.length=E.length ∧
 (↑E.length:Int)=(↑E.length:Int)∧IntKind.i64.wrap ((↑x_1:Int) + (1:Int))=(↑x_2:Int)∧True)∧eqT∧eqA E.length (l5 E)∧(∀(x:Int),(bif x == (b6 e0 E x_1).ag then some (IntKind.i64.wrap (a1g (b0a E x_1 (b6 e0 E x_1).ag) + (1:Int))) else b0a E x_1 x)=b0a E x_2 x)∧True)))∧(decide ((↑x_1:Int) < (↑E.length:Int))=false→true=a6u E m.toNat)):=by kernel_rfl
theorem v79 (E:List Ev) (m:Int) (h:L40 E.length∧0≤m):q79D E m:=by
 rw[d5a]
 have hL:E.length≤1099511627776:=h.1
 have hm:(m.toNat:Int)=m:=z1b h.2
 simp only[eq_self,true_and,and_true,z0n,imp_self,l7,l8,n6,g7,g9,PLoop.of,p9,AV.len,i5,z0s,j4,j7,j6,l9,m4,m5,lVe]
 refine⟨(),⟨0,⟨by omega,rfl⟩,rfl,fun _=>rfl⟩,fun j hj=>⟨fun hlt=>?_,fun hlt=>?_⟩⟩
 ·have h1:j < E.length:=by have:=z0e hlt; omega
  have e:a6d E m.toNat j=(q7 (b6 e0 E j) && (b6 e0 E j).k != 3 && (b6 e0 E j).k != 4 && (b6 e0 E j).en == -1 && (b6 e0 E j).ix == a1q (b6 e0 E j).ag E j && !((rdE (b6 e0 E j) || wrE (b6 e0 E j)) && decide ((b6 e0 E j).ob ≥ (m.toNat:Int)))):=rfl
  rw[hm] at e
  simp only[c5t]
  refine⟨⟨by omega,by omega⟩,h1,rfl,fun h2=>?_,fun h2=>⟨fun h3=>?_,fun h3=>⟨j + 1,⟨by omega,?_⟩,by omega,wrS (n:=E.length) h1 hL,fun x=>c3r (by omega) x⟩⟩⟩
  ·refine(a3k h1 ?_).symm
   rw[e]; grind
  ·refine(a3k h1 ?_).symm
   rw[e,h3]; simp
  ·simp only[t5,hj.2,z1l]
   rw[e,h3]; grind
 ·have h1:j=E.length:=by have:=z0m hlt; omega
  have:=hj.2
  rw[h1] at this
  exact this.symm
theorem n79 (nm:List (Option AV)):CallOk Tryz.prog GL 79 (o5 EL gbT nm [.lf .es,.lf .i] sVe):=a55 Tryz.func79 fo79 fun av pre rv h=>by
 unfold sVe at h; split at h <;> cases h
 exact⟨⟨rfl,fun t a e=>by cases e <;> exact z0h _ _⟩,fun hp=>⟨_,v79 _ _ (hp _ (.head _)),rfl,(m6 (n123 _) (m6 (a1f (n80 _)) (m6 (a1f (n81 _)) t8))),t9⟩⟩
def a24 (E:List Ev):Nat→Int
 | 0=>0
 | j + 1=>bif wrE (evA E j) then a24 E j + 1 else a24 E j
def a2j (L:List Int):Int→Option Int:=fun a=>bif L.contains a then some 1 else none
def u7 (M:List (List Int)):Nat→List Int
 | 0=>[]
 | o + 1=>u7 M o ++ w9 M o
def a03 (E:List Ev) (o:Int):List Int→List Int→Bool
 | _,[]=>true
 | L,x :: r=>decide (0≤x) && decide (x < E.length) && !L.contains x && wrE (evA E x) && (evA E x).ob == o && a03 E o (L ++ [x]) r
def a1b (E:List Ev) (M:List (List Int)):Nat→Bool
 | 0=>true
 | o + 1=>a1b E M o && a03 E o (u7 M o) (w9 M o)
def lV1 (E:List Ev) (R:List Int) (t c:Nat):LAnn where
 X:=Nat
 inv:=fun j=>j≤E.length∧t5 (a18 E R) j=true
 slots:=fun j=>[(t,.i .i64 (j:Int)),(c,.i .i64 (a24 E j))]
 mem:=fun _=>[]
 mu:=fun j=>E.length - j
 kill:=[]
def lV2 (E:List Ev) (M:List (List Int)) (t r:Nat):LAnn:=p9 M.length t (fun o=>a1b E M o=true) (fun o=>[(r,.mapi .i64 none (a2j (u7 M o)))]) []
def lV3 (E:List Ev) (M:List (List Int)) (t r:Nat):PLoop:=⟨Nat,fun o=>{ X:=Nat,inv:=fun q=>q≤(w9 M o).length∧o < M.length∧a03 E o (u7 M o) ((w9 M o).take q)=true,slots:=fun q=>[(t,.i .i64 (q:Int))],mem:=fun q=>[(r,.mapi .i64 none (a2j (u7 M o ++ (w9 M o).take q)))],mu:=fun q=>(w9 M o).length - q,kill:=[] }⟩
theorem b2k {L:List Int}:∀ {W:List Int},L.Nodup→(∀ x∈L,x∈W)→W.length≤L.length→∀ x∈W,x∈L:=by
 induction L with
 | nil=>intro W _ _ hl x hx; cases W with
  | nil=>cases hx
  | cons y r=>simp at hl
 | cons a L ih =>
  intro W hn hs hl x hx
  rw[z3q] at hn
  by_cases e:x=a
  ·subst e; exact z1i
  ·refine z0u _ (ih (W:=W.erase a) hn.2 (fun y hy=>?_) ?_ x ((List.mem_erase_of_ne e).2 hx))
   ·exact(List.mem_erase_of_ne (fun h:y=a=>hn.1 (by rw[← h]; exact hy))).2 (hs y (z0u _ hy))
   ·rw[List.length_erase_of_mem (hs a z1i)]
    simp at hl; omega
theorem b0e {L:List Int}:∀ {W:List Int},L.Nodup→(∀ x∈L,x∈W)→L.length≤W.length:=by
 induction L with
 | nil=>intro W _ _; simp
 | cons a L ih =>
  intro W hn hs
  rw[z3q] at hn
  have h1:=ih (W:=W.erase a) hn.2 (fun y hy=>(List.mem_erase_of_ne (fun h:y=a=>hn.1 (by rw[← h]; exact hy))).2 (hs y (z0u _ hy)))
  have h2:=hs a z1i
  rw[List.length_erase_of_mem h2] at h1
  have h3:0 < W.length:=List.length_pos_of_mem h2
  simp; omega
theorem c43 {W:List Int}:∀ {r:List Int},W.Nodup→(∀ x∈W,x∈r)→r.length≤W.length→r.Nodup:=by
 induction W with
 | nil=>intro r _ _ hl; cases r with
  | nil=>exact List.nodup_nil
  | cons y r=>simp at hl
 | cons a W ih =>
  intro r hn hs hl
  have hall:=b2k hn hs hl
  rw[z3q] at hn
  have ha:=hs a z1i
  have hlen:=List.length_erase_of_mem ha
  have hsub:∀ x∈W,x∈r.erase a:=fun x hx=>(List.mem_erase_of_ne (fun h:x=a=>hn.1 (by rw[← h]; exact hx))).2 (hs x (z0u _ hx))
  have hl2:(r.erase a).length≤W.length:=by simp at hl; omega
  have h1:=ih hn.2 hsub hl2
  have h2:=b2k hn.2 hsub hl2
  exact(List.perm_cons_erase ha).nodup_iff.2 (z3q.2 ⟨fun h=>hn.1 (h2 a h),h1⟩)
end Go.Proofs.YtaeeaniofljmnaaGreatDoor
