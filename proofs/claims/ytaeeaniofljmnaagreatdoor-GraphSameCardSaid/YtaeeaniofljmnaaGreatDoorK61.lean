/-
  A part of the proof (K61).
-/
import Derived.Test.YtaeeaniofljmnaaGreatDoorKSo
namespace Go.Proofs.YtaeeaniofljmnaaGreatDoor
set_option linter.unusedSimpArgs false
set_option linter.unusedVariables false
open Go Go.Proofs.YtaeeaniofljmnaaGreatDoor.Sx
set_option maxRecDepth 100000
theorem fo41:s5 Tryz.prog 41:=⟨Tryz.f41,Tryz.func41,by kernel_rfl,by kernel_rfl⟩
def q41D (E:List Ev) (R:List Int) (M:List (List Int)) (E':List Ev) (R':List Int) (M':List (List Int)):Prop:=s4 (({ calls:=[b8g (c90 E R M E' R' M'),kFnd (c90 E R M E' R' M'),c04 94 pcE syG (c90 E R M E' R' M'),c04 95 pcM moG (c90 E R M E' R' M')],loops:=[(0,.of (lS1 E E' 6 5 8)),(2,.of (lS2 E.length (a5p E R M E' R' M' (toL E E')) 8)),(4,lS3 E.length (a6i R R' (toL E E')) (a5q E R M E' R' M' (toL E E')) 10)] }:Kit)).tab Tryz.f41 [grV E R M,.agg [.sl 3 E'.length,.sl 4 R'.length,.sl 5 M'.length]] (grM E R M ++ [.arr E'.length (i6 E'),.arr R'.length (e8 R'),.arr M'.length (i4 M')]) (m4 (.b (sm2 E R M E' R' M')))
theorem d8r (E:List Ev) (R:List Int) (M:List (List Int)) (E':List Ev) (R':List Int) (M':List (List Int)):q41D E R M E' R' M'=(
 let a:=(0:Int)
 let b:=E.length=E.length∧R.length=R.length∧M.length=M.length
 let c:=n7 E'
 let d:=E'.length=E'.length∧R'.length=R'.length∧M'.length=M'.length
 let e:=!b8 E R M || !b8 E' R' M'
 let f:=(↑E.length:Int)
 let g:=lS3 E.length (a6i R R' (toL E E')) (a5q E R M E' R' M' (toL E E')) (10:Nat)
 let h:=a5p E R M E' R' M' (toL E E')
 let k:=(↑E'.length:Int)
 let l:=!b8 E R M
 let m:=(1099511627776:Nat)
 let n:=PLoop.of (lS2 E.length h (8:Nat))
 let o:=toL E E'
 let p:=PLoop.of (lS1 E E' (6:Nat) (5:Nat) (8:Nat))
 let q:=b7 a R'
 let s:=!b8 E R M || !b8 E' R' M' || f !=k
 let t:=(1:Nat)
 E.length=E.length∧R.length=R.length∧M.length=M.length∧nE E∧nI R∧nR M∧(E.length≤m∧(M.length≤(8:Nat)→∀(r:List Int),List.Mem r M→r.length≤m))∧(l=false→E'.length=E'.length)∧(l=false→R'.length=R'.length)∧(l=false→M'.length=M'.length)∧(l=false→mkN (fun(j:Nat)=>b7 e0 E' j) E'.length=E')∧(l=false→mkN q R'.length=R')∧(l=false→mkN (fun(j:Nat)=>mkN (fun(i:Nat)=>b7 a (b7 [] M' j) i) (b7 [] M' j).length) M'.length=M')∧(l=false→E'.length≤m∧(M'.length≤(8:Nat)→∀(r:List Int),List.Mem r M'→r.length≤m))∧(s=true→false=sm2 E R M E' R' M')∧(s=false→∃(x:PUnit),(∃(x:Nat),(x≤E.length∧j8 (a63 E E') x=true)∧(a=(↑x:Int)∧(0:Nat)=x∧True)∧((0:Nat)=x∧x=(0:Nat)∧True)∧True)∧∀(x_1:Nat),x_1≤E.length∧j8 (a63 E E') x_1=true→(decide ((↑x_1:Int) < f)=true→(a≤(↑x_1:Int)∧(↑x_1:Int) < f)∧x_1 < E.length∧E'.length=E'.length∧R'.length=R'.length∧M'.length=M'.length∧mkN (fun(j:Nat)=>b7 e0 E' j) E'.length=E'∧mkN q R'.length=R'∧mkN (fun(j:Nat)=>mkN (fun(i:Nat)=>b7 a (b7 [] M' j) i) (b7 [] M' j).length) M'.length=M'∧E'.length≤m∧(decide (n7 E' (b7 e0 E x_1) < a)=true→false=sm2 E R M E' R' M')∧(decide (n7 E' (b7 e0 E x_1) < a)=false→x_1=x_1∧t=t∧(x_1 + t) * (8:Nat)≤(140737488355328:Nat)∧x_1 + t≤(9223372036854775807:Nat)∧∃(x_2:Nat),(x_2≤E.length∧j8 (a63 E E') x_2=true)∧(p.ann x).mu x_2 < (p.ann x).mu x_1∧(b∧d∧True∧True∧x_1 + t=x_2∧IntKind.i64.wrap ((↑x_1:Int) + (1:Int))=(↑x_2:Int)∧b∧b8 E R M=b8 E R M∧l =!b8 E R M∧l =!b8 E R M∧e=e∧e=e∧false=false∧True)∧eqA E.length (i6 E)∧eqA R.length (e8 R)∧eqA M.length (i4 M)∧eqA E'.length (i6
 E')∧eqA R'.length (e8 R')∧eqA M'.length (i4 M')∧b∧d∧(x_1 + t=x_2∧(∀(j:Nat),j < x_2→(bif j.blt x_1 then b7 a (mpA c e0 E x_1) j else g8 [n7 E' (b7 e0 E x_1)] (j - x_1))=b7 a (mpA c e0 E x_2) j)∧True)∧True))∧(decide ((↑x_1:Int) < f)=false→∃(x:PUnit),(∃(x:Nat),(x≤E.length∧j8 h x=true)∧(a=(↑x:Int)∧True)∧True)∧∀(x_2:Nat),x_2≤E.length∧j8 h x_2=true→(decide ((↑x_2:Int) < (↑x_1:Int))=true→(a≤(↑x_2:Int)∧(↑x_2:Int) < (↑R.length:Int))∧x_2 < R.length∧(decide (b7 a R x_2 ≥ a)=true→(a≤b7 a R x_2∧b7 a R x_2 < (↑x_1:Int))∧(b7 a R x_2).toNat < x_1∧(a≤(↑x_2:Int)∧(↑x_2:Int) < (↑x_1:Int))∧x_2 < x_1∧(a≤b7 a (mpA c e0 E x_1) x_2∧b7 a (mpA c e0 E x_1) x_2 < (↑R'.length:Int))∧(b7 a (mpA c e0 E x_1) x_2).toNat < R'.length∧((b7 a (mpA c e0 E x_1) (b7 a R x_2).toNat !=b7 a R' (b7 a (mpA c e0 E x_1) x_2).toNat)=true→false=sm2 E R M E' R' M')∧((b7 a (mpA c e0 E x_1) (b7 a R x_2).toNat !=b7 a R' (b7 a (mpA c e0 E x_1) x_2).toNat)=false→∃(x_3:Nat),(∃(x:Nat),(x≤E.length∧x_3 < E.length∧a6i R R' o (↑x_3:Int)=true∧j8 (a5q E R M E' R' M' o (↑x_3:Int)) x=true)∧(a=(↑x:Int)∧True)∧True)∧∀(x_4:Nat),x_4≤E.length∧x_3 < E.length∧a6i R R' o (↑x_3:Int)=true∧j8 (a5q E R M E' R' M' o (↑x_3:Int)) x_4=true→(decide ((↑x_4:Int) < (↑x_1:Int))=true→E.length=E.length∧R.length=R.length∧M.length=M.length∧nE E∧nI R∧nR M∧((a≤(↑x_2:Int)∧(↑x_2:Int) < f)∧a≤(↑x_4:Int)∧(↑x_4:Int) < f)∧(a≤(↑x_2:Int)∧(↑x_2:Int) < (↑x_1:Int))∧x_2 < x_1∧(a≤(↑x_4:Int)∧(↑x_4:Int) < (↑x_1:Int))∧x_4 <
 x_1∧E'.length=E'.length∧R'.length=R'.length∧M'.length=M'.length∧mkN (fun(j:Nat)=>b7 e0 E' j) E'.length=E'∧mkN q R'.length=R'∧mkN (fun(j:Nat)=>mkN (fun(i:Nat)=>b7 a (b7 [] M' j) i) (b7 [] M' j).length) M'.length=M'∧((a≤b7 a (mpA c e0 E x_1) x_2∧b7 a (mpA c e0 E x_1) x_2 < k)∧a≤b7 a (mpA c e0 E x_1) x_4∧b7 a (mpA c e0 E x_1) x_4 < k)∧((!syG E R M (↑x_2:Int) (↑x_4:Int) ==syG E' R' M' (b7 a (mpA c e0 E x_1) x_2) (b7 a (mpA c e0 E x_1) x_4))=false→E.length=E.length)∧((!syG E R M (↑x_2:Int) (↑x_4:Int) ==syG E' R' M' (b7 a (mpA c e0 E x_1) x_2) (b7 a (mpA c e0 E x_1) x_4))=false→R.length=R.length)∧((!syG E R M (↑x_2:Int) (↑x_4:Int) ==syG E' R' M' (b7 a (mpA c e0 E x_1) x_2) (b7 a (mpA c e0 E x_1) x_4))=false→M.length=M.length)∧((!syG E R M (↑x_2:Int) (↑x_4:Int) ==syG E' R' M' (b7 a (mpA c e0 E x_1) x_2) (b7 a (mpA c e0 E x_1) x_4))=false→nE E)∧((!syG E R M (↑x_2:Int) (↑x_4:Int) ==syG E' R' M' (b7 a (mpA c e0 E x_1) x_2) (b7 a (mpA c e0 E x_1) x_4))=false→nI R)∧((!syG E R M (↑x_2:Int) (↑x_4:Int) ==syG E' R' M' (b7 a (mpA c e0 E x_1) x_2) (b7 a (mpA c e0 E x_1) x_4))=false→nR M)∧((!syG E R M (↑x_2:Int) (↑x_4:Int) ==syG E' R' M' (b7 a (mpA c e0 E x_1) x_2) (b7 a (mpA c e0 E x_1) x_4))=false→((a≤(↑x_2:Int)∧(↑x_2:Int) < f)∧a≤(↑x_4:Int)∧(↑x_4:Int) < f)∧(∀(r:List Int),List.Mem r M→r.length≤m)∧∀(i:Int),a≤i→i < f→wrE (evA E i)=true→a≤(evA E i).ob∧(evA E i).ob < (↑M.length:Int))∧((!syG E R M (↑x_2:Int) (↑x_4:Int) ==syG E' R' M' (b7 a (mpA c e0 E x_1) x_2) (b7 a (mpA c e0 E x_1)
 x_4))=false→a≤(↑x_2:Int)∧(↑x_2:Int) < (↑x_1:Int))∧((!syG E R M (↑x_2:Int) (↑x_4:Int) ==syG E' R' M' (b7 a (mpA c e0 E x_1) x_2) (b7 a (mpA c e0 E x_1) x_4))=false→x_2 < x_1)∧((!syG E R M (↑x_2:Int) (↑x_4:Int) ==syG E' R' M' (b7 a (mpA c e0 E x_1) x_2) (b7 a (mpA c e0 E x_1) x_4))=false→a≤(↑x_4:Int)∧(↑x_4:Int) < (↑x_1:Int))∧((!syG E R M (↑x_2:Int) (↑x_4:Int) ==syG E' R' M' (b7 a (mpA c e0 E x_1) x_2) (b7 a (mpA c e0 E x_1) x_4))=false→x_4 < x_1)∧((!syG E R M (↑x_2:Int) (↑x_4:Int) ==syG E' R' M' (b7 a (mpA c e0 E x_1) x_2) (b7 a (mpA c e0 E x_1) x_4))=false→E'.length=E'.length)∧((!syG E R M (↑x_2:Int) (↑x_4:Int) ==syG E' R' M' (b7 a (mpA c e0 E x_1) x_2) (b7 a (mpA c e0 E x_1) x_4))=false→R'.length=R'.length)∧((!syG E R M (↑x_2:Int) (↑x_4:Int) ==syG E' R' M' (b7 a (mpA c e0 E x_1) x_2) (b7 a (mpA c e0 E x_1) x_4))=false→M'.length=M'.length)∧((!syG E R M (↑x_2:Int) (↑x_4:Int) ==syG E' R' M' (b7 a (mpA c e0 E x_1) x_2) (b7 a (mpA c e0 E x_1) x_4))=false→mkN (fun(j:Nat)=>b7 e0 E' j) E'.length=E')∧((!syG E R M (↑x_2:Int) (↑x_4:Int) ==syG E' R' M' (b7 a (mpA c e0 E x_1) x_2) (b7 a (mpA c e0 E x_1) x_4))=false→mkN q R'.length=R')∧((!syG E R M (↑x_2:Int) (↑x_4:Int) ==syG E' R' M' (b7 a (mpA c e0 E x_1) x_2) (b7 a (mpA c e0 E x_1) x_4))=false→mkN (fun(j:Nat)=>mkN (fun(i:Nat)=>b7 a (b7 [] M' j) i) (b7 [] M' j).length) M'.length=M')∧((!syG E R M (↑x_2:Int) (↑x_4:Int) ==syG E' R' M' (b7 a (mpA c e0 E x_1) x_2) (b7 a (mpA c e0 E x_1) x_4))=false→((a≤b7 a (mpA c e0 E x_1) x_2∧b7 a (mpA c
 e0 E x_1) x_2 < k)∧a≤b7 a (mpA c e0 E x_1) x_4∧b7 a (mpA c e0 E x_1) x_4 < k)∧(∀(r:List Int),List.Mem r M'→r.length≤m)∧∀(i:Int),a≤i→i < k→wrE (evA E' i)=true→a≤(evA E' i).ob∧(evA E' i).ob < (↑M'.length:Int))∧((!syG E R M (↑x_2:Int) (↑x_4:Int) ==syG E' R' M' (b7 a (mpA c e0 E x_1) x_2) (b7 a (mpA c e0 E x_1) x_4) || !moG E R M (↑x_2:Int) (↑x_4:Int) ==moG E' R' M' (b7 a (mpA c e0 E x_1) x_2) (b7 a (mpA c e0 E x_1) x_4))=true→false=sm2 E R M E' R' M')∧((!syG E R M (↑x_2:Int) (↑x_4:Int) ==syG E' R' M' (b7 a (mpA c e0 E x_1) x_2) (b7 a (mpA c e0 E x_1) x_4) || !moG E R M (↑x_2:Int) (↑x_4:Int) ==moG E' R' M' (b7 a (mpA c e0 E x_1) x_2) (b7 a (mpA c e0 E x_1) x_4))=false→∃(x:Nat),(x≤E.length∧x_3 < E.length∧a6i R R' o (↑x_3:Int)=true∧j8 (a5q E R M E' R' M' o (↑x_3:Int)) x=true)∧(g.ann x_3).mu x < (g.ann x_3).mu x_4∧(b∧d∧True∧True∧x_1=x_1∧(↑x_1:Int)=(↑x_1:Int)∧(↑x_2:Int)=(↑x_2:Int)∧b7 a (mpA c e0 E x_1) (b7 a R x_2).toNat=b7 a (mpA c e0 E x_1) (b7 a R x_2).toNat∧IntKind.i64.wrap ((↑x_4:Int) + (1:Int))=(↑x:Int)∧b∧b8 E R M=b8 E R M∧l =!b8 E R M∧l =!b8 E R M∧e=e∧e=e∧false=false∧(↑x_1:Int)=(↑x_1:Int)∧True∧E.length=E.length∧f=f∧false=false∧(↑x_2:Int)=(↑x_2:Int)∧x_1=x_1∧(↑x_1:Int)=(↑x_1:Int)∧true=true∧True∧R.length=R.length∧(↑x_2:Int)=(↑x_2:Int)∧x_2=x_2∧b7 a R x_2=b7 a R x_2∧b7 a R x_2=b7 a R x_2∧true=true∧x_1=x_1∧b7 a R x_2=b7 a R x_2∧(b7 a R x_2).toNat=(b7 a R x_2).toNat∧b7 a (mpA c e0 E x_1) (b7 a R x_2).toNat=b7 a (mpA c e0 E x_1) (b7 a R x_2).toNat∧b7 a (mpA c e0 E x_1) (b7 a R
 x_2).toNat=b7 a (mpA c e0 E x_1) (b7 a R x_2).toNat∧True∧R'.length=R'.length∧x_1=x_1∧(↑x_2:Int)=(↑x_2:Int)∧x_2=x_2∧b7 a (mpA c e0 E x_1) x_2=b7 a (mpA c e0 E x_1) x_2∧(b7 a (mpA c e0 E x_1) x_2).toNat=(b7 a (mpA c e0 E x_1) x_2).toNat∧b7 a R' (b7 a (mpA c e0 E x_1) x_2).toNat=b7 a R' (b7 a (mpA c e0 E x_1) x_2).toNat∧false=false∧True)∧eqA E.length (i6 E)∧eqA R.length (e8 R)∧eqA M.length (i4 M)∧eqA E'.length (i6 E')∧eqA R'.length (e8 R')∧eqA M'.length (i4 M')∧b∧d∧eqA x_1 (e8 (mpA c e0 E x_1))∧True))∧(decide ((↑x_4:Int) < (↑x_1:Int))=false→∃(x_5:Nat),(x_5≤E.length∧j8 h x_5=true)∧(n.ann x).mu x_5 < (n.ann x).mu x_2∧(b∧d∧True∧True∧x_1=x_1∧(↑x_1:Int)=(↑x_1:Int)∧IntKind.i64.wrap ((↑x_2:Int) + (1:Int))=(↑x_5:Int)∧b∧b8 E R M=b8 E R M∧l =!b8 E R M∧l =!b8 E R M∧e=e∧e=e∧false=false∧(↑x_1:Int)=(↑x_1:Int)∧True∧E.length=E.length∧f=f∧false=false∧True)∧eqA E.length (i6 E)∧eqA R.length (e8 R)∧eqA M.length (i4 M)∧eqA E'.length (i6 E')∧eqA R'.length (e8 R')∧eqA M'.length (i4 M')∧b∧d∧eqA x_1 (e8 (mpA c e0 E x_1))∧True)))∧(decide (b7 a R x_2 ≥ a)=false→(a≤(↑x_2:Int)∧(↑x_2:Int) < (↑x_1:Int))∧x_2 < x_1∧(a≤b7 a (mpA c e0 E x_1) x_2∧b7 a (mpA c e0 E x_1) x_2 < (↑R'.length:Int))∧(b7 a (mpA c e0 E x_1) x_2).toNat < R'.length∧((b7 a R x_2 !=b7 a R' (b7 a (mpA c e0 E x_1) x_2).toNat)=true→false=sm2 E R M E' R' M')∧((b7 a R x_2 !=b7 a R' (b7 a (mpA c e0 E x_1) x_2).toNat)=false→∃(x_3:Nat),(∃(x:Nat),(x≤E.length∧x_3 < E.length∧a6i R R' o (↑x_3:Int)=true∧j8 (a5q E R M E' R' M' o (↑x_3:Int))
 x=true)∧(a=(↑x:Int)∧True)∧True)∧∀(x_4:Nat),x_4≤E.length∧x_3 < E.length∧a6i R R' o (↑x_3:Int)=true∧j8 (a5q E R M E' R' M' o (↑x_3:Int)) x_4=true→(decide ((↑x_4:Int) < (↑x_1:Int))=true→E.length=E.length∧R.length=R.length∧M.length=M.length∧nE E∧nI R∧nR M∧((a≤(↑x_2:Int)∧(↑x_2:Int) < f)∧a≤(↑x_4:Int)∧(↑x_4:Int) < f)∧(a≤(↑x_2:Int)∧(↑x_2:Int) < (↑x_1:Int))∧x_2 < x_1∧(a≤(↑x_4:Int)∧(↑x_4:Int) < (↑x_1:Int))∧x_4 < x_1∧E'.length=E'.length∧R'.length=R'.length∧M'.length=M'.length∧mkN (fun(j:Nat)=>b7 e0 E' j) E'.length=E'∧mkN q R'.length=R'∧mkN (fun(j:Nat)=>mkN (fun(i:Nat)=>b7 a (b7 [] M' j) i) (b7 [] M' j).length) M'.length=M'∧((a≤b7 a (mpA c e0 E x_1) x_2∧b7 a (mpA c e0 E x_1) x_2 < k)∧a≤b7 a (mpA c e0 E x_1) x_4∧b7 a (mpA c e0 E x_1) x_4 < k)∧((!syG E R M (↑x_2:Int) (↑x_4:Int) ==syG E' R' M' (b7 a (mpA c e0 E x_1) x_2) (b7 a (mpA c e0 E x_1) x_4))=false→E.length=E.length)∧((!syG E R M (↑x_2:Int) (↑x_4:Int) ==syG E' R' M' (b7 a (mpA c e0 E x_1) x_2) (b7 a (mpA c e0 E x_1) x_4))=false→R.length=R.length)∧((!syG E R M (↑x_2:Int) (↑x_4:Int) ==syG E' R' M' (b7 a (mpA c e0 E x_1) x_2) (b7 a (mpA c e0 E x_1) x_4))=false→M.length=M.length)∧((!syG E R M (↑x_2:Int) (↑x_4:Int) ==syG E' R' M' (b7 a (mpA c e0 E x_1) x_2) (b7 a (mpA c e0 E x_1) x_4))=false→nE E)∧((!syG E R M (↑x_2:Int) (↑x_4:Int) ==syG E' R' M' (b7 a (mpA c e0 E x_1) x_2) (b7 a (mpA c e0 E x_1) x_4))=false→nI R)∧((!syG E R M (↑x_2:Int) (↑x_4:Int) ==syG E' R' M' (b7 a (mpA c e0 E x_1) x_2) (b7 a (mpA c e0 E x_1) x_4))=false→nR M)∧((!syG
 E R M (↑x_2:Int) (↑x_4:Int) ==syG E' R' M' (b7 a (mpA c e0 E x_1) x_2) (b7 a (mpA c e0 E x_1) x_4))=false→((a≤(↑x_2:Int)∧(↑x_2:Int) < f)∧a≤(↑x_4:Int)∧(↑x_4:Int) < f)∧(∀(r:List Int),List.Mem r M→r.length≤m)∧∀(i:Int),a≤i→i < f→wrE (evA E i)=true→a≤(evA E i).ob∧(evA E i).ob < (↑M.length:Int))∧((!syG E R M (↑x_2:Int) (↑x_4:Int) ==syG E' R' M' (b7 a (mpA c e0 E x_1) x_2) (b7 a (mpA c e0 E x_1) x_4))=false→a≤(↑x_2:Int)∧(↑x_2:Int) < (↑x_1:Int))∧((!syG E R M (↑x_2:Int) (↑x_4:Int) ==syG E' R' M' (b7 a (mpA c e0 E x_1) x_2) (b7 a (mpA c e0 E x_1) x_4))=false→x_2 < x_1)∧((!syG E R M (↑x_2:Int) (↑x_4:Int) ==syG E' R' M' (b7 a (mpA c e0 E x_1) x_2) (b7 a (mpA c e0 E x_1) x_4))=false→a≤(↑x_4:Int)∧(↑x_4:Int) < (↑x_1:Int))∧((!syG E R M (↑x_2:Int) (↑x_4:Int) ==syG E' R' M' (b7 a (mpA c e0 E x_1) x_2) (b7 a (mpA c e0 E x_1) x_4))=false→x_4 < x_1)∧((!syG E R M (↑x_2:Int) (↑x_4:Int) ==syG E' R' M' (b7 a (mpA c e0 E x_1) x_2) (b7 a (mpA c e0 E x_1) x_4))=false→E'.length=E'.length)∧((!syG E R M (↑x_2:Int) (↑x_4:Int) ==syG E' R' M' (b7 a (mpA c e0 E x_1) x_2) (b7 a (mpA c e0 E x_1) x_4))=false→R'.length=R'.length)∧((!syG E R M (↑x_2:Int) (↑x_4:Int) ==syG E' R' M' (b7 a (mpA c e0 E x_1) x_2) (b7 a (mpA c e0 E x_1) x_4))=false→M'.length=M'.length)∧((!syG E R M (↑x_2:Int) (↑x_4:Int) ==syG E' R' M' (b7 a (mpA c e0 E x_1) x_2) (b7 a (mpA c e0 E x_1) x_4))=false→mkN (fun(j:Nat)=>b7 e0 E' j) E'.length=E')∧((!syG E R M (↑x_2:Int) (↑x_4:Int) ==syG E' R' M' (b7 a (mpA c e0 E x_1) x_2) (b7 a (mpA c e0 E x_1)
 x_4))=false→mkN q R'.length=R')∧((!syG E R M (↑x_2:Int) (↑x_4:Int) ==syG E' R' M' (b7 a (mpA c e0 E x_1) x_2) (b7 a (mpA c e0 E x_1) x_4))=false→mkN (fun(j:Nat)=>mkN (fun(i:Nat)=>b7 a (b7 [] M' j) i) (b7 [] M' j).length) M'.length=M')∧((!syG E R M (↑x_2:Int) (↑x_4:Int) ==syG E' R' M' (b7 a (mpA c e0 E x_1) x_2) (b7 a (mpA c e0 E x_1) x_4))=false→((a≤b7 a (mpA c e0 E x_1) x_2∧b7 a (mpA c e0 E x_1) x_2 < k)∧a≤b7 a (mpA c e0 E x_1) x_4∧b7 a (mpA c e0 E x_1) x_4 < k)∧(∀(r:List Int),List.Mem r M'→r.length≤m)∧∀(i:Int),a≤i→i < k→wrE (evA E' i)=true→a≤(evA E' i).ob∧(evA E' i).ob < (↑M'.length:Int))∧((!syG E R M (↑x_2:Int) (↑x_4:Int) ==syG E' R' M' (b7 a (mpA c e0 E x_1) x_2) (b7 a (mpA c e0 E x_1) x_4) || !moG E R M (↑x_2:Int) (↑x_4:Int) ==moG E' R' M' (b7 a (mpA c e0 E x_1) x_2) (b7 a (mpA c e0 E x_1) x_4))=true→false=sm2 E R M E' R' M')∧((!syG E R M (↑x_2:Int) (↑x_4:Int) ==syG E' R' M' (b7 a (mpA c e0 E x_1) x_2) (b7 a (mpA c e0 E x_1) x_4) || !moG E R M (↑x_2:Int) (↑x_4:Int) ==moG E' R' M' (b7 a (mpA c e0 E x_1) x_2) (b7 a (mpA c e0 E x_1) x_4))=false→∃(x:Nat),(x≤E.length∧x_3 < E.length∧a6i R R' o (↑x_3:Int)=true∧j8 (a5q E R M E' R' M' o (↑x_3:Int)) x=true)∧(g.ann x_3).mu x < (g.ann x_3).mu x_4∧(b∧d∧True∧True∧x_1=x_1∧(↑x_1:Int)=(↑x_1:Int)∧(↑x_2:Int)=(↑x_2:Int)∧b7 a R x_2=b7 a R x_2∧IntKind.i64.wrap ((↑x_4:Int) + (1:Int))=(↑x:Int)∧b∧b8 E R M=b8 E R M∧l =!b8 E R M∧l =!b8 E R
 M∧e=e∧e=e∧false=false∧(↑x_1:Int)=(↑x_1:Int)∧True∧E.length=E.length∧f=f∧false=false∧(↑x_2:Int)=(↑x_2:Int)∧x_1=x_1∧(↑x_1:Int)=(↑x_1:Int)∧true=true∧True∧R.length=R.length∧(↑x_2:Int)=(↑x_2:Int)∧x_2=x_2∧b7 a R x_2=b7 a R x_2∧b7 a R x_2=b7 a R x_2∧false=false∧b7 a R x_2=b7 a R x_2∧True∧R'.length=R'.length∧x_1=x_1∧(↑x_2:Int)=(↑x_2:Int)∧x_2=x_2∧b7 a (mpA c e0 E x_1) x_2=b7 a (mpA c e0 E x_1) x_2∧(b7 a (mpA c e0 E x_1) x_2).toNat=(b7 a (mpA c e0 E x_1) x_2).toNat∧b7 a R' (b7 a (mpA c e0 E x_1) x_2).toNat=b7 a R' (b7 a (mpA c e0 E x_1) x_2).toNat∧false=false∧True)∧eqA E.length (i6 E)∧eqA R.length (e8 R)∧eqA M.length (i4 M)∧eqA E'.length (i6 E')∧eqA R'.length (e8 R')∧eqA M'.length (i4 M')∧b∧d∧eqA x_1 (e8 (mpA c e0 E x_1))∧True))∧(decide ((↑x_4:Int) < (↑x_1:Int))=false→∃(x_5:Nat),(x_5≤E.length∧j8 h x_5=true)∧(n.ann x).mu x_5 < (n.ann x).mu x_2∧(b∧d∧True∧True∧x_1=x_1∧(↑x_1:Int)=(↑x_1:Int)∧IntKind.i64.wrap ((↑x_2:Int) + (1:Int))=(↑x_5:Int)∧b∧b8 E R M=b8 E R M∧l =!b8 E R M∧l =!b8 E R M∧e=e∧e=e∧false=false∧(↑x_1:Int)=(↑x_1:Int)∧True∧E.length=E.length∧f=f∧false=false∧True)∧eqA E.length (i6 E)∧eqA R.length (e8 R)∧eqA M.length (i4 M)∧eqA E'.length (i6 E')∧eqA R'.length (e8 R')∧eqA M'.length (i4 M')∧b∧d∧eqA x_1 (e8 (mpA c e0 E x_1))∧True))))∧(decide ((↑x_2:Int) < (↑x_1:Int))=false→true=sm2 E R M E' R' M')))):=by kernel_rfl
theorem v41 (E:List Ev) (R:List Int) (M:List (List Int)) (E':List Ev) (R':List Int) (M':List (List Int)) (h:SzG E M) (h':SzG E' M'):q41D E R M E' R' M':=by
 rw[d8r]
 simp only[eq_self,true_and,and_true,z0o,imp_self,o6,o8,p7,i7,i9,PLoop.of,s8,AV.len,j4,z0u,l4,l5,l6,m8,m9,n5,lS1,lS2,lS3,lAl]
 have h1:E.length≤1099511627776:=h.1
 have h1':E'.length≤1099511627776:=h'.1
 refine⟨⟨h.1,h.2⟩,fun _=>⟨h'.1,h'.2⟩,fun hc=>?_,fun hc=>⟨(),⟨0,⟨by omega,rfl⟩,by simp⟩,fun i hi=>⟨fun hli=>?_,fun hli=>?_⟩⟩⟩
 ·have:sm0 E R M E' R' M'=true:=hc
  rw[sm2,this]; rfl
 ·have hi2:i < E.length:=by have:=z0e hli; omega
  have ei:evA E (i:Int)=b7 e0 E i:=by rw[evA,z0s]
  refine⟨⟨by omega,by omega⟩,hi2,h1',fun hd=>?_,fun hd=>⟨by omega,by omega,i + 1,⟨by omega,?_⟩,by omega,⟨rfl,wrS (n:=E.length) hi2 h1⟩,rfl,b1r rfl⟩⟩
  ·rw[sm2,a06 (f:=a63 E E') hi2 (by rw[a63,ei,hd]; rfl),Bool.false_and,z3h]
  ·rw[j8,hi.2,z0y,a63,ei,hd]; rfl
 have hi2:i=E.length:=by have:=z0i hli; omega
 subst hi2
 have hF:=hi.2
 have hs0:sm0 E R M E' R' M'=false:=hc
 simp only[z1j,z3b,bne_eq_false_iff_eq] at hc
 obtain⟨⟨hv,hv'⟩,hn⟩:=hc
 have hn:E'.length=E.length:=by omega
 have hT:=d15 hv hv' hn hF
 obtain⟨hG1,hN1⟩:=a0g hv h
 obtain⟨hG2,hN2⟩:=a0g hv' h'
 obtain⟨hM1,hR1⟩:=a14 hv
 obtain⟨hM2,hR2⟩:=a14 hv'
 have eL:mpA (n7 E') e0 E E.length=toL E E':=a53 _ _ _
 rw[eL]
 have bad:∀ i:Nat,i < E.length→a5p E R M E' R' M' (toL E E') i=false→false=sm2 E R M E' R' M':=fun i hi hb=>by
  rw[sm2,a06 (f:=a5p E R M E' R' M' (toL E E')) hi hb,z3h,z3h]
 have good:j8 (a5p E R M E' R' M' (toL E E')) E.length=true→true=sm2 E R M E' R' M':=fun hg=>by
  rw[sm2,hs0,hF,hg]; rfl
 clear hi hli
 generalize toL E E'=L at *
 have hlb:∀ i:Nat,i < E.length→0≤b7 0 L i∧b7 0 L i < E.length:=fun i hi=>by
  have:=hT.p.at (i:=i) (by omega) (by omega)
  rwa [inA,z0s] at this
 refine⟨(),⟨0,⟨by omega,rfl⟩,rfl⟩,fun i hi=>⟨fun hli=>?_,fun hli=>?_⟩⟩
 ·have hi2:i < E.length:=by have:=z0e hli; omega
  have bi:=hlb i hi2
  have rI:inA R i=b7 0 R i:=by rw[inA,z0s]
  have lI:inA L i=b7 0 L i:=by rw[inA,z0s]
  have sb:=b5r (vg hv) (i:=i) (by omega) (by omega)
  rw[rI] at sb
  have f1:decide (b7 0 R i ≥ 0)=true→a6i R R' L i = !(b7 0 L (b7 0 R i).toNat != b7 0 R' (b7 0 L i).toNat):=fun hd=>by
   rw[a6i,frL,rI,lI,hd]; rfl
  have f2:decide (b7 0 R i ≥ 0)=false→a6i R R' L i = !(b7 0 R i != b7 0 R' (b7 0 L i).toNat):=fun hd=>by
   rw[a6i,frL,rI,lI,hd]; rfl
  refine⟨⟨by omega,by omega⟩,by omega,fun hd=>?_,fun hd=>?_⟩
  ·have hd0:=z0e hd
   refine⟨⟨hd0,by omega⟩,by omega,⟨by omega,by omega⟩,hi2,⟨by omega,by omega⟩,by omega,fun hf=>?_,fun hf=>?_⟩
   ·exact bad i hi2 (by rw[a5p,f1 hd,hf]; rfl)
   have hfr:a6i R R' L i=true:=by rw[f1 hd,hf]; rfl
   refine⟨i,⟨0,⟨by omega,hi2,hfr,rfl⟩,rfl⟩,fun k hk=>⟨fun hlk=>?_,fun hlk=>?_⟩⟩
   ·have hk2:k < E.length:=by have:=z0e hlk; omega
    have bk:=hlb k hk2
    have rk:a9c E M:=hG1.1
    have rk':a9c E' M':=hG2.1
    have lk:inA L k=b7 0 L k:=by rw[inA,z0s]
    refine⟨⟨⟨by omega,by omega⟩,by omega,by omega⟩,⟨by omega,by omega⟩,hi2,⟨by omega,by omega⟩,hk2,⟨⟨by omega,by omega⟩,by omega,by omega⟩,fun _=>⟨⟨⟨by omega,by omega⟩,by omega,by omega⟩,rk.1,rk.2⟩,fun _=>⟨by omega,by omega⟩,fun _=>hi2,fun _=>⟨by omega,by omega⟩,fun _=>hk2,fun _=>⟨⟨⟨by omega,by omega⟩,by omega,by omega⟩,rk'.1,rk'.2⟩,fun hx=>?_,fun hx=>⟨k + 1,⟨by omega,hi2,hfr,?_⟩,by omega,wrS (n:=E.length) hk2 (by omega)⟩⟩
    ·refine bad i hi2 ?_
     have:a5q E R M E' R' M' L i k=false:=by rw[a5q,c3m,lI,lk]; exact congrArg Bool.not hx
     rw[a5p,a06 (f:=a5q E R M E' R' M' L i) hk2 this,z3h]
    ·rw[j8,hk.2.2.2,z0y,a5q,c3m,lI,lk]
     exact congrArg Bool.not hx
   ·have hk2:k=E.length:=by have:=z0i hlk; omega
    subst hk2
    refine⟨i + 1,⟨by omega,?_⟩,by omega,wrS (n:=E.length) hi2 (by omega)⟩
    rw[j8,hi.2,z0y,a5p,hfr,hk.2.2.2]; rfl
  ·refine⟨⟨by omega,by omega⟩,hi2,⟨by omega,by omega⟩,by omega,fun hf=>?_,fun hf=>?_⟩
   ·exact bad i hi2 (by rw[a5p,f2 hd,hf]; rfl)
   have hfr:a6i R R' L i=true:=by rw[f2 hd,hf]; rfl
   refine⟨i,⟨0,⟨by omega,hi2,hfr,rfl⟩,rfl⟩,fun k hk=>⟨fun hlk=>?_,fun hlk=>?_⟩⟩
   ·have hk2:k < E.length:=by have:=z0e hlk; omega
    have bk:=hlb k hk2
    have rk:a9c E M:=hG1.1
    have rk':a9c E' M':=hG2.1
    have lk:inA L k=b7 0 L k:=by rw[inA,z0s]
    refine⟨⟨⟨by omega,by omega⟩,by omega,by omega⟩,⟨by omega,by omega⟩,hi2,⟨by omega,by omega⟩,hk2,⟨⟨by omega,by omega⟩,by omega,by omega⟩,fun _=>⟨⟨⟨by omega,by omega⟩,by omega,by omega⟩,rk.1,rk.2⟩,fun _=>⟨by omega,by omega⟩,fun _=>hi2,fun _=>⟨by omega,by omega⟩,fun _=>hk2,fun _=>⟨⟨⟨by omega,by omega⟩,by omega,by omega⟩,rk'.1,rk'.2⟩,fun hx=>?_,fun hx=>⟨k + 1,⟨by omega,hi2,hfr,?_⟩,by omega,wrS (n:=E.length) hk2 (by omega)⟩⟩
    ·refine bad i hi2 ?_
     have:a5q E R M E' R' M' L i k=false:=by rw[a5q,c3m,lI,lk]; exact congrArg Bool.not hx
     rw[a5p,a06 (f:=a5q E R M E' R' M' L i) hk2 this,z3h]
    ·rw[j8,hk.2.2.2,z0y,a5q,c3m,lI,lk]
     exact congrArg Bool.not hx
   ·have hk2:k=E.length:=by have:=z0i hlk; omega
    subst hk2
    refine⟨i + 1,⟨by omega,?_⟩,by omega,wrS (n:=E.length) hi2 (by omega)⟩
    rw[j8,hi.2,z0y,a5p,hfr,hk.2.2.2]; rfl
 ·have hi2:i=E.length:=by have:=z0i hli; omega
  subst hi2
  exact good hi.2
theorem n41 (nm:List (Option AV)):CallOk Tryz.prog [] 41 (q6 EL none nm [PG,PG] d7v):=z4 Tryz.func41 fo41 fun av pre rv h=>by
 unfold d7v at h; split at h <;> cases h
 exact⟨⟨rfl,fun t a e=>by cases e <;> exact z0h _ _⟩,fun hp=>⟨_,v41 _ _ _ _ _ _ (hp _ (.head _)) (hp _ (.tail _ (.head _))),rfl,(o5 (n34 _) (o5 (n93 _) (o5 (n94 _) (o5 (n95 _) v4)))),v5⟩⟩
end Go.Proofs.YtaeeaniofljmnaaGreatDoor
