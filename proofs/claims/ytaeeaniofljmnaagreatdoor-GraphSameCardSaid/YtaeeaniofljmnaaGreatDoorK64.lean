/-
  A part of the proof (K64).
-/
import Derived.Test.YtaeeaniofljmnaaGreatDoorK62
import Derived.Test.YtaeeaniofljmnaaGreatDoorK60
import Derived.Test.YtaeeaniofljmnaaGreatDoorK51a
namespace Go.Proofs.YtaeeaniofljmnaaGreatDoor
set_option linter.unusedSimpArgs false
set_option linter.unusedVariables false
open Go Go.Proofs.YtaeeaniofljmnaaGreatDoor.Sx
set_option maxRecDepth 100000
theorem d54 {E:List Ev} {R:List Int} {M:List (List Int)} (h:a8p E R M 200=true):SzG E M:=d6o (R:=R) (decide_eq_true (by have:=z0e h; omega))
def q8D (E:List Ev) (R:List Int) (M:List (List Int)) (E':List Ev) (R':List Int) (M':List (List Int)):Prop:=s4 (({ g:=true,calls:=[kFew (a8r E R M E' R' M'),kAwk (a8r E R M E' R' M'),kSm1 (a8r E R M E' R' M'),kSm2 (a8r E R M E' R' M'),c8g (a8r E R M E' R' M'),d5b (a8r E R M E' R' M'),b8g (a8r E R M E' R' M')] }:Kit)).tab Tryz.f8 [b2r E R M,c8e E' R' M'] (b0e E R M E' R' M') (m4 .tt)
theorem e1t (E:List Ev) (R:List Int) (M:List (List Int)) (E':List Ev) (R':List Int) (M':List (List Int)):q8D E R M E' R' M'=(
 let a:=true && sm1 E R M E' R' M' ==sm2 E R M E' R' M' && a0h E R M E' R' M' ==y7 E R M E' R' M'
 let b:=true && sm1 E R M E' R' M' ==sm2 E R M E' R' M'
 let c:=(1099511627776:Nat)
 let d:=(17592186044416:Nat)
 let e:=!a8p E R M (200:Int)
 let f:=b7 (0:Int) R'
 let g:=a=true→E.length=E.length
 let h:=a=true→R.length=R.length
 let k:=a=true→M.length=M.length
 let l:=(8:Nat)
 let m:=!a8p E R M (200:Int) || !a8p E' R' M' (200:Int)
 let n:=true=true→E'.length=E'.length
 let o:=true=true→R'.length=R'.length
 let p:=true=true→M'.length=M'.length
 let q:=true=true→mkN f R'.length=R'
 let s:=true=true→E.length=E.length
 let t:=true=true→R.length=R.length
 let u:=true=true→M.length=M.length
 let v:=b=true→E'.length=E'.length
 let w:=b=true→R'.length=R'.length
 let y:=b=true→M'.length=M'.length
 let z:=b=true→mkN f R'.length=R'
 let A:=b=true→E.length=E.length
 let B:=b=true→R.length=R.length
 let C:=b=true→M.length=M.length
 let D:=a=true→nE E
 let F:=a=true→nI R
 let G:=a=true→nR M
 E.length=E.length∧R.length=R.length∧M.length=M.length∧nE E∧nI R∧nR M∧((E.length≤d∧R.length≤d∧M.length≤d)∧∀(r:List Int),List.Mem r M→r.length≤d)∧(e=false→E'.length=E'.length)∧(e=false→R'.length=R'.length)∧(e=false→M'.length=M'.length)∧(e=false→mkN (fun(j:Nat)=>b7 e0 E' j) E'.length=E')∧(e=false→mkN f R'.length=R')∧(e=false→mkN (fun(j:Nat)=>mkN (fun(i:Nat)=>b7 (0:Int) (b7 [] M' j) i) (b7 [] M' j).length) M'.length=M')∧(e=false→(E'.length≤d∧R'.length≤d∧M'.length≤d)∧∀(r:List Int),List.Mem r M'→r.length≤d)∧(m=true→some tbl=some tbl∧true=true)∧(m=false→some tbl=some tbl∧(true=true→some tbl=some tbl)∧s∧t∧u∧(true=true→nE E)∧(true=true→nI R)∧(true=true→nR M)∧n∧o∧p∧(true=true→mkN (fun(j:Nat)=>b7 e0 E' j) E'.length=E')∧q∧(true=true→mkN (fun(j:Nat)=>mkN (fun(i:Nat)=>b7 (0:Int) (b7 [] M' j) i) (b7 [] M' j).length) M'.length=M')∧(true=true→E.length≤c∧(M.length≤l→∀(r:List Int),List.Mem r M→r.length≤c))∧(true=true→E'.length≤c∧(M'.length≤l→∀(r:List Int),List.Mem r M'→r.length≤c))∧s∧t∧u∧(true=true→nE E)∧(true=true→nI R)∧(true=true→nR M)∧n∧o∧p∧(true=true→mkN (fun(j:Nat)=>b7 e0 E' j) E'.length=E')∧q∧(true=true→mkN (fun(j:Nat)=>mkN (fun(i:Nat)=>b7 (0:Int) (b7 [] M' j) i) (b7 [] M' j).length) M'.length=M')∧(true=true→E.length≤c∧(M.length≤l→∀(r:List Int),List.Mem r M→r.length≤c))∧(true=true→E'.length≤c∧(M'.length≤l→∀(r:List Int),List.Mem r M'→r.length≤c))∧(b=true→some tbl=some tbl)∧A∧B∧C∧(b=true→nE E)∧(b=true→nI R)∧(b=true→nR M)∧v∧w∧y∧(b=true→mkN (fun(j:Nat)=>b7 e0 E' j)
 E'.length=E')∧z∧(b=true→mkN (fun(j:Nat)=>mkN (fun(i:Nat)=>b7 (0:Int) (b7 [] M' j) i) (b7 [] M' j).length) M'.length=M')∧(b=true→E.length≤c∧(M.length≤l→∀(r:List Int),List.Mem r M→r.length≤c))∧(b=true→E'.length≤c∧(M'.length≤l→∀(r:List Int),List.Mem r M'→r.length≤c))∧A∧B∧C∧(b=true→nE E)∧(b=true→nI R)∧(b=true→nR M)∧v∧w∧y∧(b=true→mkN (fun(j:Nat)=>b7 e0 E' j) E'.length=E')∧z∧(b=true→mkN (fun(j:Nat)=>mkN (fun(i:Nat)=>b7 (0:Int) (b7 [] M' j) i) (b7 [] M' j).length) M'.length=M')∧(b=true→E.length≤c∧(M.length≤l→∀(r:List Int),List.Mem r M→r.length≤c))∧(b=true→E'.length≤c∧(M'.length≤l→∀(r:List Int),List.Mem r M'→r.length≤c))∧(a=true→some tbl=some tbl)∧g∧h∧k∧D∧F∧G∧g∧h∧k∧D∧F∧G∧(a=true→E.length≤c∧(M.length≤l→∀(r:List Int),List.Mem r M→r.length≤c))∧(a=true→E.length≤c∧(M.length≤l→∀(r:List Int),List.Mem r M→r.length≤c))∧g∧h∧k∧D∧F∧G∧(a=true→E.length≤c∧(M.length≤l→∀(r:List Int),List.Mem r M→r.length≤c))∧(true && sm1 E R M E' R' M' ==sm2 E R M E' R' M' && a0h E R M E' R' M' ==y7 E R M E' R' M' && sm1 E R M E R M ==b8 E R M)=true)):=by kernel_rfl
theorem v8 (E:List Ev) (R:List Int) (M:List (List Int)) (E':List Ev) (R':List Int) (M':List (List Int)) (h:SzF E R M) (h':SzF E' R' M'):q8D E R M E' R' M':=by
 rw[e1t]
 simp only[eq_self,true_and,and_true,z0o,imp_self,o6,o8,p7,i7,i9,PLoop.of,s8,AV.len,j4,z0u,l4,l5,l6,m8,m9,n5]
 refine⟨⟨h.1,h.2⟩,fun _=>⟨h'.1,h'.2⟩,fun hc=>?_⟩
 simp only[z1j,z3b] at hc
 have z1:SzG E M:=d54 hc.1
 have z2:SzG E' M':=d54 hc.2
 have w1:E.length≤1099511627776∧(M.length≤8→∀(r:List Int),List.Mem r M→r.length≤1099511627776):=⟨z1.1,z1.2⟩
 have w2:E'.length≤1099511627776∧(M'.length≤8→∀(r:List Int),List.Mem r M'→r.length≤1099511627776):=⟨z2.1,z2.2⟩
 rw[c4v,c81 z1 z2,d36]
 exact⟨w1,w2,w1,w2,fun _=>w1,fun _=>w2,fun _=>w1,fun _=>w2,fun _=>w1,fun _=>w1,fun _=>w1,by simp⟩
end Go.Proofs.YtaeeaniofljmnaaGreatDoor
