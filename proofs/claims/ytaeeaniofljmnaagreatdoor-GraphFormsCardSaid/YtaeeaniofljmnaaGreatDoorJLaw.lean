/-
  A part of the proof (JLaw).
-/
import Derived.Test.YtaeeaniofljmnaaGreatDoorJ56a
import Derived.Test.YtaeeaniofljmnaaGreatDoorJV3
import Derived.Test.YtaeeaniofljmnaaGreatDoorJ35a
import Derived.Test.YtaeeaniofljmnaaGreatDoorJ51a
import Derived.Test.YtaeeaniofljmnaaGreatDoorJ40a
namespace Go.Proofs.YtaeeaniofljmnaaGreatDoor
set_option linter.unusedSimpArgs false
set_option linter.unusedVariables false
open Go Go.Proofs.YtaeeaniofljmnaaGreatDoor.Sx
set_option maxRecDepth 100000
theorem fo67:p8 Tryz.prog 67:=⟨Tryz.f67,Tryz.func67,by kernel_rfl,by kernel_rfl⟩
def q67D (N:Int) (P:List Pq) (L:List Int) (k:Int):Prop:=p7 (({ calls:=[c4v 66 []],loops:=[(0,.of (lAl (rdG P L k) P.length 7))] }:Kit)).tab Tryz.f67 [.agg [.i .i64 N,.sl 0 P.length],.sl 1 L.length,.i .i64 k] [.arr P.length (a1l P),.arr L.length (f7 L)] (l4 (.b (b07 P L k)))
theorem d82 (N:Int) (P:List Pq) (L:List Int) (k:Int):q67D N P L k=(
 let a:=(0:Int)
 let b:=(↑P.length:Int)
 let c:=PLoop.of (lAl (rdG P L k) P.length (7:Nat))
 let d:=mkN (b6 a L) L.length
 let e:=N=N∧P.length=P.length
 ∃(x:PUnit),(∃(x:Nat),(x≤P.length∧m8 (rdG P L k) x=true)∧(a=(↑x:Int)∧True)∧True)∧∀(x_1:Nat),x_1≤P.length∧m8 (rdG P L k) x_1=true→(decide ((↑x_1:Int) < b)=true→(a≤(↑x_1:Int)∧(↑x_1:Int) < b)∧x_1 < P.length∧(((b6 (a,a) P x_1).snd ==k)=true→a≤(↑x_1:Int)∧(↑x_1:Int) < b)∧(((b6 (a,a) P x_1).snd ==k)=true→x_1 < P.length)∧(((b6 (a,a) P x_1).snd ==k)=true→L.length=L.length)∧(((b6 (a,a) P x_1).snd ==k)=true→d.length≤(1099511627776:Nat))∧(((b6 (a,a) P x_1).snd ==k && decide (y6 d (b6 (a,a) P x_1).fst < a))=true→false=b07 P L k)∧(((b6 (a,a) P x_1).snd ==k && decide (y6 d (b6 (a,a) P x_1).fst < a))=false→∃(x_2:Nat),(x_2≤P.length∧m8 (rdG P L k) x_2=true)∧(c.ann x).mu x_2 < (c.ann x).mu x_1∧(e∧L.length=L.length∧k=k∧True∧IntKind.i64.wrap ((↑x_1:Int) + (1:Int))=(↑x_2:Int)∧True)∧eqA P.length (a1l P)∧eqA L.length (f7 L)∧e∧True))∧(decide ((↑x_1:Int) < b)=false→true=b07 P L k)):=by kernel_rfl
theorem v67 (N:Int) (P:List Pq) (L:List Int) (k:Int) (h:L9 P∧L40 L.length):q67D N P L k:=by
 rw[d82]
 obtain⟨hP,hL⟩:=h
 have hP:P.length≤1099511627776:=hP
 have hL:L.length≤1099511627776:=hL
 simp only[eq_self,true_and,and_true,z0n,imp_self,l9,m6,n5,g7,g8,PLoop.of,q6,AV.len,g9,z0s,i9,j4,j5,l5,l6,l7,lAl]
 refine⟨(),⟨0,⟨by omega,rfl⟩,rfl⟩,fun j hj=>⟨fun hlj=>?_,fun hlj=>?_⟩⟩
 ·have hj2:j < P.length:=by have:=z0e hlj; omega
  refine⟨⟨by omega,by omega⟩,hj2,fun _=>⟨by omega,by omega⟩,fun _=>hj2,fun _=>hL,fun hc=>?_,fun hc=>⟨j + 1,⟨by omega,?_⟩,by omega,wrS (n:=P.length) hj2 hP⟩⟩
  ·exact(a0r hj2 (by rw[rdG,z1m,hc]; rfl)).symm
  ·simp only[m8,hj.2,z1h]
   rw[rdG,z1m,hc]; rfl
 ·have hj2:j=P.length:=by have:=z0i hlj; omega
  subst hj2
  exact hj.2.symm
theorem n67 (nm:List (Option AV)):CallOk Tryz.prog [] 67 (o5 EL none nm [.lf .r,.lf .is,.lf .i] d6k):=x4 Tryz.func67 fo67 fun av pre rv h=>by
 unfold d6k at h; split at h <;> cases h
 exact⟨⟨rfl,fun t a e=>by cases e <;> exact z0h _ _⟩,fun hp=>⟨_,v67 _ _ _ _ (hp _ (.head _)),rfl,(m9 (n66 _) t9),u4⟩⟩
theorem fo68:p8 Tryz.prog 68:=⟨Tryz.f68,Tryz.func68,by kernel_rfl,by kernel_rfl⟩
def q68D (E:List Ev) (R:List Int) (M:List (List Int)) (L:List Int):Prop:=p7 (({ calls:=[c4v 66 []],loops:=[(0,.of (lC2 E (fun i=>psO L (inA R i)) L 6 6 7 8 9)),(2,.of (lC3 M (y6 L) L.length 8 6 7 8 9)),(4,lC4 M (y6 L) 10 9 10)],takes:=[(2,fun _ _=>[.fresh 6 0 85 9,.fresh 6 1 3 1,.fresh 6 2 23 1,.cols 9 (i4 [])])] }:Kit)).tab Tryz.f68 [grV E R M,.sl 3 L.length] (grM E R M ++ [.arr L.length (f7 L)]) ((QV.gr none (arE E L) (orR R L) (orM M L)).post EL)
theorem d83 (E:List Ev) (R:List Int) (M:List (List Int)) (L:List Int):q68D E R M L=(
 let a:=(0:Int)
 let b:=E.length=E.length∧R.length=R.length∧M.length=M.length
 let c:=evA E
 let d:=YtaeeaniofljmnaaGreatDoor.orM M L
 let e:=(1:Nat)
 let f:=(0:Nat)
 let g:=arE E L
 let h:=True∧True∧True
 let l:=(↑L.length:Int)
 let m:=(9223372036854775807:Nat)
 let n:=(140737488355328:Nat)
 let o:=(↑M.length:Int)
 let p:=PLoop.of (lC3 M (y6 L) L.length (8:Nat) (6:Nat) (7:Nat) (8:Nat) (9:Nat))
 let r:=mkN (b6 a L) L.length
 let s:=lC4 M (y6 L) (10:Nat) (9:Nat) (10:Nat)
 let t:=(6:Nat)
 let u:=(8:Nat)
 f=f∧∃(x:PUnit),(∃(x:Nat),(x≤L.length∧True)∧(a=(↑x:Int)∧True)∧(f=x∧f=x∧f=f)∧(f=x∧x=f∧x=f∧x=f∧x=f∧x=f∧x=f∧x=f∧x=f∧x=f∧True)∧(f=x∧x=f∧True)∧True)∧∀(x_1:Nat),x_1≤L.length∧True→(decide ((↑x_1:Int) < l)=true→(a≤(↑x_1:Int)∧(↑x_1:Int) < l)∧x_1 < L.length∧(a≤b6 a L x_1∧b6 a L x_1 < (↑E.length:Int))∧(b6 a L x_1).toNat < E.length∧x_1=x_1∧e=e∧(x_1 + e) * (72:Nat)≤n∧x_1 + e≤m∧(a≤(↑x_1:Int)∧(↑x_1:Int) < l)∧x_1 < L.length∧(a≤b6 a L x_1∧b6 a L x_1 < (↑R.length:Int))∧(b6 a L x_1).toNat < R.length∧(decide (b6 a R (b6 a L x_1).toNat ≥ a)=true→L.length=L.length∧r.length≤(1099511627776:Nat)∧x_1=x_1∧e=e∧(x_1 + e) * u≤n∧x_1 + e≤m∧∃(x_2:Nat),(x_2≤L.length∧True)∧((PLoop.of (lC2 E (fun(i:Int)=>psO L (inA R i)) L t t (7:Nat) u (9:Nat))).ann x).mu x_2 < ((PLoop.of (lC2 E (fun(i:Int)=>psO L (inA R i)) L t t (7:Nat) u (9:Nat))).ann x).mu x_1∧(b∧L.length=L.length∧True∧True∧True∧IntKind.i64.wrap ((↑x_1:Int) + (1:Int))=(↑x_2:Int)∧h∧True)∧eqA E.length (i6 E)∧eqA R.length (f7 R)∧eqA M.length (i4 M)∧eqA L.length (f7 L)∧b∧h∧(x_1 + e=x_2∧x_1 + e=x_2∧f=f)∧(x_1 + e=x_2∧(∀(j:Nat),j < x_2→(bif j.blt x_1 then(b6 e0 (mpA c a L x_1) j).ag else d9 [(b6 e0 E (b6 a L x_1).toNat).ag] (j - x_1))=(b6 e0 (mpA c a L x_2) j).ag)∧(∀(j:Nat),j < x_2→(bif j.blt x_1 then(b6 e0 (mpA c a L x_1) j).ix else d9 [(b6 e0 E (b6 a L x_1).toNat).ix] (j - x_1))=(b6 e0 (mpA c a L x_2) j).ix)∧(∀(j:Nat),j < x_2→(bif j.blt x_1 then(b6 e0 (mpA c a L x_1) j).k else d9 [(b6 e0 E (b6 a L x_1).toNat).k] (j - x_1))=(b6 e0 (mpA c a L x_2)
 j).k)∧(∀(j:Nat),j < x_2→(bif j.blt x_1 then(b6 e0 (mpA c a L x_1) j).ob else d9 [(b6 e0 E (b6 a L x_1).toNat).ob] (j - x_1))=(b6 e0 (mpA c a L x_2) j).ob)∧(∀(j:Nat),j < x_2→(bif j.blt x_1 then(b6 e0 (mpA c a L x_1) j).mu else d9 [(b6 e0 E (b6 a L x_1).toNat).mu] (j - x_1))=(b6 e0 (mpA c a L x_2) j).mu)∧(∀(j:Nat),j < x_2→(bif j.blt x_1 then(b6 e0 (mpA c a L x_1) j).en else d9 [(b6 e0 E (b6 a L x_1).toNat).en] (j - x_1))=(b6 e0 (mpA c a L x_2) j).en)∧(∀(j:Nat),j < x_2→(bif j.blt x_1 then(b6 e0 (mpA c a L x_1) j).od else d9 [(b6 e0 E (b6 a L x_1).toNat).od] (j - x_1))=(b6 e0 (mpA c a L x_2) j).od)∧(∀(j:Nat),j < x_2→(bif j.blt x_1 then(b6 e0 (mpA c a L x_1) j).rd else d9 [(b6 e0 E (b6 a L x_1).toNat).rd] (j - x_1))=(b6 e0 (mpA c a L x_2) j).rd)∧(∀(j:Nat),j < x_2→(bif j.blt x_1 then(b6 e0 (mpA c a L x_1) j).wr else d9 [(b6 e0 E (b6 a L x_1).toNat).wr] (j - x_1))=(b6 e0 (mpA c a L x_2) j).wr)∧True)∧(x_1 + e=x_2∧(∀(j:Nat),j < x_2→(bif j.blt x_1 then b6 a (mpA (fun(i:Int)=>psO L (inA R i)) a L x_1) j else d9 [y6 r (b6 a R (b6 a L x_1).toNat)] (j - x_1))=b6 a (mpA (fun(i:Int)=>psO L (inA R i)) a L x_2) j)∧True)∧eqA f (i4 [])∧True)∧(decide (b6 a R (b6 a L x_1).toNat ≥ a)=false→x_1=x_1∧e=e∧(x_1 + e) * u≤n∧x_1 + e≤m∧∃(x_2:Nat),(x_2≤L.length∧True)∧((PLoop.of (lC2 E (fun(i:Int)=>psO L (inA R i)) L t t (7:Nat) u (9:Nat))).ann x).mu x_2 < ((PLoop.of (lC2 E (fun(i:Int)=>psO L (inA R i)) L t t (7:Nat) u (9:Nat))).ann x).mu x_1∧(b∧L.length=L.length∧True∧True∧True∧IntKind.i64.wrap ((↑x_1:Int) +
 (1:Int))=(↑x_2:Int)∧h∧True)∧eqA E.length (i6 E)∧eqA R.length (f7 R)∧eqA M.length (i4 M)∧eqA L.length (f7 L)∧b∧h∧(x_1 + e=x_2∧x_1 + e=x_2∧f=f)∧(x_1 + e=x_2∧(∀(j:Nat),j < x_2→(bif j.blt x_1 then(b6 e0 (mpA c a L x_1) j).ag else d9 [(b6 e0 E (b6 a L x_1).toNat).ag] (j - x_1))=(b6 e0 (mpA c a L x_2) j).ag)∧(∀(j:Nat),j < x_2→(bif j.blt x_1 then(b6 e0 (mpA c a L x_1) j).ix else d9 [(b6 e0 E (b6 a L x_1).toNat).ix] (j - x_1))=(b6 e0 (mpA c a L x_2) j).ix)∧(∀(j:Nat),j < x_2→(bif j.blt x_1 then(b6 e0 (mpA c a L x_1) j).k else d9 [(b6 e0 E (b6 a L x_1).toNat).k] (j - x_1))=(b6 e0 (mpA c a L x_2) j).k)∧(∀(j:Nat),j < x_2→(bif j.blt x_1 then(b6 e0 (mpA c a L x_1) j).ob else d9 [(b6 e0 E (b6 a L x_1).toNat).ob] (j - x_1))=(b6 e0 (mpA c a L x_2) j).ob)∧(∀(j:Nat),j < x_2→(bif j.blt x_1 then(b6 e0 (mpA c a L x_1) j).mu else d9 [(b6 e0 E (b6 a L x_1).toNat).mu] (j - x_1))=(b6 e0 (mpA c a L x_2) j).mu)∧(∀(j:Nat),j < x_2→(bif j.blt x_1 then(b6 e0 (mpA c a L x_1) j).en else d9 [(b6 e0 E (b6 a L x_1).toNat).en] (j - x_1))=(b6 e0 (mpA c a L x_2) j).en)∧(∀(j:Nat),j < x_2→(bif j.blt x_1 then(b6 e0 (mpA c a L x_1) j).od else d9 [(b6 e0 E (b6 a L x_1).toNat).od] (j - x_1))=(b6 e0 (mpA c a L x_2) j).od)∧(∀(j:Nat),j < x_2→(bif j.blt x_1 then(b6 e0 (mpA c a L x_1) j).rd else d9 [(b6 e0 E (b6 a L x_1).toNat).rd] (j - x_1))=(b6 e0 (mpA c a L x_2) j).rd)∧(∀(j:Nat),j < x_2→(bif j.blt x_1 then(b6 e0 (mpA c a L x_1) j).wr else d9 [(b6 e0 E (b6 a L x_1).toNat).wr] (j - x_1))=(b6 e0 (mpA c a L x_2)
 j).wr)∧True)∧(x_1 + e=x_2∧(∀(j:Nat),j < x_2→(bif j.blt x_1 then b6 a (mpA (fun(i:Int)=>psO L (inA R i)) a L x_1) j else d9 [b6 a R (b6 a L x_1).toNat] (j - x_1))=b6 a (mpA (fun(i:Int)=>psO L (inA R i)) a L x_2) j)∧True)∧eqA f (i4 [])∧True))∧(decide ((↑x_1:Int) < l)=false→∃(x:PUnit),(∃(x:Nat),(x≤M.length∧True)∧(a=(↑x:Int)∧True)∧(x_1=L.length∧x_1=L.length∧f=x)∧(f=x∧((∀(j:Nat),j < x→(b6 ([]:List Int) [] j).length=(b6 [] (mpA (fun(q:List Int)=>List.map (y6 L) q) [] M x) j).length)∧(∀(j:Nat),j < x→∀(i:Nat),i < (b6 [] (mpA (fun(q:List Int)=>List.map (y6 L) q) [] M x) j).length→b6 a (b6 ([]:List Int) [] j) i=b6 a (b6 [] (mpA (fun(q:List Int)=>List.map (y6 L) q) [] M x) j) i)∧True)∧True)∧True)∧∀(x_2:Nat),x_2≤M.length∧True→(decide ((↑x_2:Int) < o)=true→∃(x_3:Nat),(∃(x:Nat),(x≤(q8 M x_3).length∧x_3 < M.length)∧(a=(↑x:Int)∧f=x∧True)∧(f=x∧x=f∧True)∧True)∧∀(x_4:Nat),x_4≤(q8 M x_3).length∧x_3 < M.length→(a≤(↑x_2:Int)∧(↑x_2:Int) < o)∧x_2 < M.length∧(decide ((↑x_4:Int) < (↑(b6 [] M x_2).length:Int))=true→(a≤(↑x_2:Int)∧(↑x_2:Int) < o)∧x_2 < M.length∧(a≤(↑x_4:Int)∧(↑x_4:Int) < (↑(b6 [] M x_2).length:Int))∧x_4 < (b6 [] M x_2).length∧L.length=L.length∧r.length≤(1099511627776:Nat)∧x_4=x_4∧e=e∧(x_4 + e) * u≤n∧x_4 + e≤m∧∃(x:Nat),(x≤(q8 M x_3).length∧x_3 < M.length)∧(s.ann x_3).mu x < (s.ann x_3).mu x_4∧(b∧L.length=L.length∧True∧True∧True∧(↑x_1:Int)=(↑x_1:Int)∧(↑x_2:Int)=(↑x_2:Int)∧x_4 + e=x∧IntKind.i64.wrap ((↑x_4:Int) +
 (1:Int))=(↑x:Int)∧h∧(↑x_1:Int)=(↑x_1:Int)∧L.length=L.length∧l=l∧false=false∧(↑x_2:Int)=(↑x_2:Int)∧True∧M.length=M.length∧o=o∧true=true∧True)∧eqA E.length (i6 E)∧eqA R.length (f7 R)∧eqA M.length (i4 M)∧eqA L.length (f7 L)∧b∧h∧(L.length=L.length∧L.length=L.length∧x_2=x_2)∧eqA x_1 (i6 (mpA c a L x_1))∧eqA x_1 (f7 (mpA (fun(i:Int)=>psO L (inA R i)) a L x_1))∧eqA x_2 (i4 (mpA (fun(q:List Int)=>List.map (y6 L) q) [] M x_2))∧(x_4 + e=x∧(∀(j:Nat),j < x→(bif j.blt x_4 then b6 a (mpA (y6 L) a (q8 M x_3) x_4) j else d9 [y6 r (b6 a (b6 [] M x_2) x_4)] (j - x_4))=b6 a (mpA (y6 L) a (q8 M x_3) x) j)∧True)∧True)∧(decide ((↑x_4:Int) < (↑(b6 [] M x_2).length:Int))=false→x_4=x_4∧x_2=x_2∧e=e∧(x_2 + e) * (24:Nat)≤n∧x_2 + e≤m∧∃(x_5:Nat),(x_5≤M.length∧True)∧(p.ann x).mu x_5 < (p.ann x).mu x_2∧(b∧L.length=L.length∧True∧True∧True∧(↑x_1:Int)=(↑x_1:Int)∧IntKind.i64.wrap ((↑x_2:Int) + (1:Int))=(↑x_5:Int)∧h∧(↑x_1:Int)=(↑x_1:Int)∧L.length=L.length∧l=l∧false=false∧True)∧eqA E.length (i6 E)∧eqA R.length (f7 R)∧eqA M.length (i4 M)∧eqA L.length (f7 L)∧b∧h∧(L.length=L.length∧L.length=L.length∧x_2 + e=x_5)∧eqA x_1 (i6 (mpA c a L x_1))∧eqA x_1 (f7 (mpA (fun(i:Int)=>psO L (inA R i)) a L x_1))∧(x_2 + e=x_5∧((∀(j:Nat),j < x_5→(bif j.blt x_2 then(b6 [] (mpA (fun(q:List Int)=>List.map (y6 L) q) [] M x_2) j).length else x_4)=(b6 [] (mpA (fun(q:List Int)=>List.map (y6 L) q) [] M x_5) j).length)∧(∀(j:Nat),j < x_5→∀(i:Nat),i < (b6 [] (mpA (fun(q:List Int)=>List.map (y6 L) q) [] M x_5) j).length→(bif j.blt x_2 then
 fun(i:Nat)=>b6 a (b6 [] (mpA (fun(q:List Int)=>List.map (y6 L) q) [] M x_2) j) i else b6 a (mpA (y6 L) a (q8 M x_3) x_4)) i=b6 a (b6 [] (mpA (fun(q:List Int)=>List.map (y6 L) q) [] M x_5) j) i)∧True)∧True)∧True))∧(decide ((↑x_2:Int) < o)=false→(L.length=g.length∧x_1=g.length∧(∀(j:Nat),j < g.length→(b6 e0 (mpA c a L x_1) j).ag=(b6 e0 g j).ag)∧(∀(j:Nat),j < g.length→(b6 e0 (mpA c a L x_1) j).ix=(b6 e0 g j).ix)∧(∀(j:Nat),j < g.length→(b6 e0 (mpA c a L x_1) j).k=(b6 e0 g j).k)∧(∀(j:Nat),j < g.length→(b6 e0 (mpA c a L x_1) j).ob=(b6 e0 g j).ob)∧(∀(j:Nat),j < g.length→(b6 e0 (mpA c a L x_1) j).mu=(b6 e0 g j).mu)∧(∀(j:Nat),j < g.length→(b6 e0 (mpA c a L x_1) j).en=(b6 e0 g j).en)∧(∀(j:Nat),j < g.length→(b6 e0 (mpA c a L x_1) j).od=(b6 e0 g j).od)∧(∀(j:Nat),j < g.length→(b6 e0 (mpA c a L x_1) j).rd=(b6 e0 g j).rd)∧(∀(j:Nat),j < g.length→(b6 e0 (mpA c a L x_1) j).wr=(b6 e0 g j).wr)∧True)∧(L.length=(orR R L).length∧x_1=(orR R L).length∧(∀(j:Nat),j < (orR R L).length→b6 a (mpA (fun(i:Int)=>psO L (inA R i)) a L x_1) j=b6 a (orR R L) j)∧True)∧x_2=d.length∧x_2=d.length∧((∀(j:Nat),j < d.length→(b6 [] (mpA (fun(q:List Int)=>List.map (y6 L) q) [] M x_2) j).length=(b6 [] d j).length)∧(∀(j:Nat),j < d.length→∀(i:Nat),i < (b6 [] d j).length→b6 a (b6 [] (mpA (fun(q:List Int)=>List.map (y6 L) q) [] M x_2) j) i=b6 a (b6 [] d j) i)∧True)∧True))):=by kernel_rfl
theorem v68 (E:List Ev) (R:List Int) (M:List (List Int)) (L:List Int) (h:pcA E R M L):q68D E R M L:=by
 rw[d83]
 obtain⟨⟨hL,hR,hM⟩,hS,hO⟩:=h
 have hrow:∀ o,o < M.length→(b6 [] M o).length≤1099511627776:=fun o ho=>hS _ (by rw[o6 [] M _ ho]; exact z1r ho)
 have hin:∀ j,j < L.length→0≤b6 0 L j∧b6 0 L j < E.length:=fun j hj=>hO _ (by rw[o6 0 L _ hj]; exact z1r hj)
 simp only[eq_self,true_and,and_true,z0n,imp_self,l9,m6,n5,g7,g8,PLoop.of,q6,AV.len,g9,z0s,i9,j4,j5,l5,l6,l7,lC2,lC3,lC4]
 refine⟨(),⟨0,by simp⟩,fun p hp=>⟨fun hlp=>?_,fun hlp=>?_⟩⟩
 ·have hp2:p < L.length:=by have:=z0e hlp; omega
  have hi:=hin p hp2
  have hw:=wrS (n:=L.length) hp2 (by omega)
  refine⟨⟨by omega,by omega⟩,hp2,hi,by omega,by omega,by omega,⟨by omega,by omega⟩,hp2,by omega,by omega,fun hc=>⟨by omega,by omega,by omega,p + 1,by omega,by omega,hw,⟨rfl,rfl⟩,⟨rfl,a00 Ev.ag rfl,a00 Ev.ix rfl,a00 Ev.k rfl,a00 Ev.ob rfl,a00 Ev.mu rfl,a00 Ev.en rfl,a00 Ev.od rfl,a00 Ev.rd rfl,a00 Ev.wr rfl⟩,rfl,b4b ?_⟩,fun hc=>⟨by omega,by omega,p + 1,by omega,by omega,hw,⟨rfl,rfl⟩,⟨rfl,a00 Ev.ag rfl,a00 Ev.ix rfl,a00 Ev.k rfl,a00 Ev.ob rfl,a00 Ev.mu rfl,a00 Ev.en rfl,a00 Ev.od rfl,a00 Ev.rd rfl,a00 Ev.wr rfl⟩,rfl,b4b ?_⟩⟩
  ·unfold psO inA; rw[hc]; rfl
  ·unfold psO inA; rw[hc]; rfl
 have hp2:p=L.length:=by have:=z0i hlp; omega
 subst hp2
 refine⟨(),⟨0,by simp⟩,fun o ho=>⟨fun hlo=>?_,fun hlo=>?_⟩⟩
 ·have ho2:o < M.length:=by have:=z0e hlo; omega
  have hro:=hrow o ho2
  have hx:q8 M o=b6 [] M o:=rfl
  refine⟨o,⟨0,by simp[ho2]⟩,fun q hq=>⟨⟨by omega,by omega⟩,ho2,fun hlq=>?_,fun hlq=>?_⟩⟩
  ·have hq2:q < (b6 [] M o).length:=by have:=z0e hlq; omega
   exact⟨⟨by omega,by omega⟩,ho2,⟨by omega,by omega⟩,hq2,by omega,by omega,by omega,q + 1,⟨by rw[hx]; omega,ho2⟩,by rw[hx]; omega,⟨rfl,wrS (n:=(b6 [] M o).length) hq2 hro⟩,rfl,b4b rfl⟩
  ·have hq2:q=(b6 [] M o).length:=by have:=z0i hlq; have:=hq.1; rw[hx] at this; omega
   have e:mpA (y6 L) 0 (q8 M o) q=(b6 [] M o).map (y6 L):=by rw[hq2,← hx,a49]
   rw[e]
   refine⟨by omega,by omega,o + 1,by omega,by omega,wrS (n:=M.length) ho2 (by omega),rfl,rfl,fun j hj=>?_,fun j hj i _=>?_⟩
   ·cases hb:Nat.blt j o
    ·obtain rfl:=a51 hb hj
     rw[z0l,a9z,z2s,hq2]
    ·rw[z0f,b00 (by rwa [z0u] at hb)]
   ·cases hb:Nat.blt j o
    ·obtain rfl:=a51 hb hj
     rw[z0l,a9z]
    ·rw[z0f,b00 (by rwa [z0u] at hb)]
 have ho2:o=M.length:=by have:=z0i hlo; omega
 subst ho2
 have e1:mpA (evA E) 0 L L.length=arE E L:=a49 _ _ _
 have e2:mpA (fun i=>psO L (inA R i)) 0 L L.length=orR R L:=a49 _ _ _
 have e3:mpA (fun q:List Int=>q.map (y6 L)) [] M M.length=orM M L:=a49 _ _ _
 rw[e1,e2,e3]
 have l1:L.length=(arE E L).length:=by simp[arE]
 have l2:L.length=(orR R L).length:=by simp[orR]
 have l3:M.length=(orM M L).length:=by simp[orM]
 simp only[z0n,and_true,true_and]
 exact⟨⟨l1,l1⟩,⟨l2,l2⟩,l3,l3⟩
theorem n68 (nm:List (Option AV)):CallOk Tryz.prog [] 68 (o5 EL none nm [PG,.lf .is] d6l):=x4 Tryz.func68 fo68 fun av pre rv h=>by
 unfold d6l at h; split at h <;> cases h
 exact⟨⟨rfl,fun t a e=>by cases e <;> exact z0h _ _⟩,fun hp=>⟨_,v68 _ _ _ _ (hp _ (.head _)),rfl,(m9 (n66 _) t9),u4⟩⟩
def a22 (P:List Pq) (L:List Int) (i:Int):Bool:=decide (y6 L i < 0) && b07 P L i
def s6 (P:List Pq) (E:List Ev):Nat→List Int
 | 0=>[]
 | s + 1=>s6 P E s ++ [m5 (a22 P (s6 P E s)) E E.length]
theorem a6d (P:List Pq) (E:List Ev):∀ s,(s6 P E s).length=s:=by
 intro s
 induction s with
 | zero=>rfl
 | succ s ih=>simp[s6,ih]
def okS (P:List Pq) (E:List Ev) (s:Int):Bool:=decide (m5 (a22 P (s6 P E s.toNat)) E E.length ≥ 0)
def okQ (P:List Pq) (E:List Ev):Bool:=m8 (okS P E) E.length
def uQ (E:List Ev) (R:List Int) (M:List (List Int)):List Pq:=b7 E.length (j8 ⟨#[112,114,115]⟩ E R M)
def y8 (E:List Ev) (R:List Int) (M:List (List Int)):Bool:=b8 E R M && okQ (uQ E R M) E
def a21 (E:List Ev) (R:List Int) (M:List (List Int)):Int:=bif b8 E R M then(bif okQ (uQ E R M) E then 0 else 20) else 1
def z6 (E:List Ev) (R:List Int) (M:List (List Int)):List Int:=s6 (uQ E R M) E E.length
def c22 (E:List Ev) (R:List Int) (M:List (List Int)):QV:=.gr (some (a21 E R M)) (f8 (y8 E R M) (arE E (z6 E R M))) (f8 (y8 E R M) (orR R (z6 E R M))) (f8 (y8 E R M) (orM M (z6 E R M)))
def c9a:SpG:=fun
 | [.ag [.es E,.is R,.rs M]]=>some ([SzG E M],c22 E R M)
 | _=>none
def d42 (nm:List (Option AV)):Nat × (List MBlk→List SV→Option AR):=(21,o5 EL none nm [PG] c9a)
def lQ2 (E:List Ev) (P:List Pq) (t o:Nat):LAnn where
 X:=Nat
 inv:=fun s=>s≤E.length∧m8 (okS P E) s=true
 slots:=fun s=>[(t,.sl o s)]
 mem:=fun s=>[(o,.oarr 3 s (f7 (s6 P E s)))]
 mu:=fun s=>E.length - s
 kill:=[o]
def lQ3 (E:List Ev) (P:List Pq) (t b:Nat):PLoop:=⟨Nat,fun s=>{ X:=Nat,inv:=fun i=>i≤E.length∧s < E.length,slots:=fun i=>[(t,.i .i64 (i:Int)),(b,.i .i64 (m5 (a22 P (s6 P E s)) E i))],mem:=fun _=>[],mu:=fun i=>E.length - i,kill:=[] }⟩
theorem c7p (P:List Pq) (E:List Ev) (s:Nat):mkN (b6 0 (s6 P E s)) s=s6 P E s:=by
 have:=g7 0 (s6 P E s)
 rwa [a6d] at this
theorem d5q {P:List Pq} {E:List Ev}:∀ {s:Nat},s≤E.length→m8 (okS P E) s=true→∀ i∈s6 P E s,0≤i∧i < E.length:=by
 intro s
 induction s with
 | zero=>intro _ _ i hi; cases hi
 | succ s ih =>
  intro hs h i hi
  simp only[m8,z0d,okS,z1m,z1i] at h
  have:=a7f (a22 P (s6 P E s)) E E.length
  simp only[s6,z0o,z0r] at hi
  rcases hi with hi | rfl
  ·exact ih (by omega) h.1 i hi
  ·omega
theorem fo21:p8 Tryz.prog 21:=⟨Tryz.f21,Tryz.func21,by kernel_rfl,by kernel_rfl⟩
def q21D (E:List Ev) (R:List Int) (M:List (List Int)):Prop:=p7 (({ calls:=[kNam (nmG E R M),c4v 66 [],kRdy (nmG E R M ++ [none,none,some (.ps (l8 (b8 E R M) (uQ E R M)))]),kReo (nmG E R M)],loops:=[(0,.of (lQ2 E (uQ E R M) 6 7)),(2,lQ3 E (uQ E R M) 8 7)] }:Kit)).tab Tryz.f21 [grV E R M] (grM E R M) ((c22 E R M).post EL)
theorem d7b (E:List Ev) (R:List Int) (M:List (List Int)):q21D E R M=(
 let a:=((bif b8 E R M then(↑E.length:Int) else(0:Int))=bif b8 E R M then(↑E.length:Int) else(0:Int))∧(AV.ps (l8 (b8 E R M) (b7 (↑E.length:Int) (j8 (ByteArray.mk #[(112:UInt8),(114:UInt8),(115:UInt8)]) E R M)))).len=(AV.ps (l8 (b8 E R M) (b7 (↑E.length:Int) (j8 (ByteArray.mk #[(112:UInt8),(114:UInt8),(115:UInt8)]) E R M)))).len
 let b:=uQ E R M
 let c:=l8 (b8 E R M) (b7 (↑E.length:Int) (j8 (ByteArray.mk #[(112:UInt8),(114:UInt8),(115:UInt8)]) E R M))
 let d:=f8 (y8 E R M) (arE E (z6 E R M))
 let e:=bif b8 E R M then(0:Int) else(1:Int)
 let f:=f8 (y8 E R M) (YtaeeaniofljmnaaGreatDoor.orM M (z6 E R M))
 let g:=E.length=E.length∧R.length=R.length∧M.length=M.length
 let h:=(0:Int)
 let l:=e=bif b8 E R M then h else(1:Int)
 let m:=a∧e=bif b8 E R M then h else(1:Int)
 let n:=f8 (y8 E R M) (orR R (z6 E R M))
 let o:=(↑E.length:Int)
 let p:=(1099511627776:Nat)
 let q:=l8 (b8 E R M) b
 let s:=lQ3 E b (8:Nat) (7:Nat)
 let t:=(0:Nat)
 let u:=True∧True∧True
 let v:=PLoop.of (lQ2 E b (6:Nat) (7:Nat))
 let w:=(1:Nat)
 E.length=E.length∧R.length=R.length∧M.length=M.length∧nE E∧nI R∧nR M∧((E.length≤p∧(M.length≤(8:Nat)→∀(r:List Int),List.Mem r M→r.length≤p))∧(ByteArray.mk #[(112:UInt8),(114:UInt8),(115:UInt8)]).size≤p)∧((e !=h)=true→e=a21 E R M∧d.length=t∧n.length=t∧f.length=t)∧((e !=h)=false→∃(x:PUnit),(∃(x:Nat),(x≤E.length∧m8 (okS b E) x=true)∧(t=x∧True)∧(t=x∧x=t∧True)∧True)∧∀(x_1:Nat),x_1≤E.length∧m8 (okS b E) x_1=true→(decide ((↑x_1:Int) < o)=true→∃(x_2:Nat),(∃(x:Nat),(x≤E.length∧x_2 < E.length)∧(h=(↑x:Int)∧(-1:Int)=m5 (a22 b (s6 b E x_2)) E x∧True)∧True)∧∀(x_3:Nat),x_3≤E.length∧x_2 < E.length→(decide ((↑x_3:Int) < o)=true→x_1=x_1∧(mkN (b6 h (s6 b E x_1)) x_1).length≤p∧(decide (y6 (mkN (b6 h (s6 b E x_1)) x_1) (↑x_3:Int) < h)=true→(AV.ps c).len=(AV.ps c).len)∧(decide (y6 (mkN (b6 h (s6 b E x_1)) x_1) (↑x_3:Int) < h)=true→mkN (fun(j:Nat)=>((b6 (h,h) c j).fst,(b6 (h,h) c j).snd)) (AV.ps c).len=l8 (b8 E R M) b)∧(decide (y6 (mkN (b6 h (s6 b E x_1)) x_1) (↑x_3:Int) < h)=true→x_1=x_1)∧(decide (y6 (mkN (b6 h (s6 b E x_1)) x_1) (↑x_3:Int) < h)=true→q.length≤p∧(mkN (b6 h (s6 b E x_1)) x_1).length≤p)∧(decide (m5 (a22 b (s6 b E x_2)) E x_3 < h)=false→(decide (y6 (mkN (b6 h (s6 b E x_1)) x_1) (↑x_3:Int) < h) && b07 q (mkN (b6 h (s6 b E x_1)) x_1) (↑x_3:Int))=true→h≤(↑x_3:Int)∧(↑x_3:Int) < o)∧(decide (m5 (a22 b (s6 b E x_2)) E x_3 < h)=false→(decide (y6 (mkN (b6 h (s6 b E x_1)) x_1) (↑x_3:Int) < h) && b07 q (mkN (b6 h (s6 b E x_1)) x_1) (↑x_3:Int))=true→x_3 < E.length)∧(decide (m5 (a22 b (s6 b E
 x_2)) E x_3 < h)=false→(decide (y6 (mkN (b6 h (s6 b E x_1)) x_1) (↑x_3:Int) < h) && b07 q (mkN (b6 h (s6 b E x_1)) x_1) (↑x_3:Int))=true→h≤m5 (a22 b (s6 b E x_2)) E x_3∧m5 (a22 b (s6 b E x_2)) E x_3 < o)∧(decide (m5 (a22 b (s6 b E x_2)) E x_3 < h)=false→(decide (y6 (mkN (b6 h (s6 b E x_1)) x_1) (↑x_3:Int) < h) && b07 q (mkN (b6 h (s6 b E x_1)) x_1) (↑x_3:Int))=true→(m5 (a22 b (s6 b E x_2)) E x_3).toNat < E.length)∧((decide (y6 (mkN (b6 h (s6 b E x_1)) x_1) (↑x_3:Int) < h) && b07 q (mkN (b6 h (s6 b E x_1)) x_1) (↑x_3:Int) && (decide (m5 (a22 b (s6 b E x_2)) E x_3 < h) || decide ((b6 e0 E x_3).ag < (b6 e0 E (m5 (a22 b (s6 b E x_2)) E x_3).toNat).ag)))=true→∃(x:Nat),(x≤E.length∧x_2 < E.length)∧(s.ann x_2).mu x < (s.ann x_2).mu x_3∧(g∧True∧True∧True∧l∧x_1=x_1∧(↑x_3:Int)=m5 (a22 b (s6 b E x_2)) E x∧IntKind.i64.wrap ((↑x_3:Int) + (1:Int))=(↑x:Int)∧m∧g∧m∧a∧l∧l∧false=false∧x_1=x_1∧(↑x_1:Int)=(↑x_1:Int)∧True∧E.length=E.length∧o=o∧true=true∧True)∧eqA E.length (i6 E)∧eqA R.length (f7 R)∧eqA M.length (i4 M)∧g∧u∧eqP c∧a∧eqA x_1 (f7 (s6 b E x_1))∧True)∧((decide (y6 (mkN (b6 h (s6 b E x_1)) x_1) (↑x_3:Int) < h) && b07 q (mkN (b6 h (s6 b E x_1)) x_1) (↑x_3:Int) && (decide (m5 (a22 b (s6 b E x_2)) E x_3 < h) || decide ((b6 e0 E x_3).ag < (b6 e0 E (m5 (a22 b (s6 b E x_2)) E x_3).toNat).ag)))=false→∃(x:Nat),(x≤E.length∧x_2 < E.length)∧(s.ann x_2).mu x < (s.ann x_2).mu x_3∧(g∧True∧True∧True∧l∧x_1=x_1∧m5 (a22 b (s6 b E x_2)) E x_3=m5 (a22 b (s6 b E x_2)) E x∧IntKind.i64.wrap ((↑x_3:Int) +
 (1:Int))=(↑x:Int)∧m∧g∧m∧a∧l∧l∧false=false∧x_1=x_1∧(↑x_1:Int)=(↑x_1:Int)∧True∧E.length=E.length∧o=o∧true=true∧True)∧eqA E.length (i6 E)∧eqA R.length (f7 R)∧eqA M.length (i4 M)∧g∧u∧eqP c∧a∧eqA x_1 (f7 (s6 b E x_1))∧True))∧(decide ((↑x_3:Int) < o)=false→(decide (m5 (a22 b (s6 b E x_2)) E x_3 < h)=true→(20:Int)=a21 E R M∧d.length=t∧n.length=t∧f.length=t)∧(decide (m5 (a22 b (s6 b E x_2)) E x_3 < h)=false→x_1=x_1∧w=w∧(x_1 + w) * (8:Nat)≤(140737488355328:Nat)∧x_1 + w≤(9223372036854775807:Nat)∧∃(x_4:Nat),(x_4≤E.length∧m8 (okS b E) x_4=true)∧(v.ann x).mu x_4 < (v.ann x).mu x_1∧(g∧True∧True∧True∧l∧x_1 + w=x_4∧m∧g∧m∧a∧l∧l∧false=false∧True)∧eqA E.length (i6 E)∧eqA R.length (f7 R)∧eqA M.length (i4 M)∧g∧u∧eqP c∧a∧(x_1 + w=x_4∧(∀(j:Nat),j < x_4→(bif j.blt x_1 then b6 h (s6 b E x_1) j else d9 [m5 (a22 b (s6 b E x_2)) E x_3] (j - x_1))=b6 h (s6 b E x_4) j)∧True)∧True)))∧(decide ((↑x_1:Int) < o)=false→E.length=E.length∧R.length=R.length∧M.length=M.length∧nE E∧nI R∧nR M∧x_1=x_1∧(((mkN (b6 h (s6 b E x_1)) x_1).length≤(64:Nat)∧R.length=E.length∧M.length≤(8:Nat))∧(∀(r:List Int),List.Mem r M→r.length≤p)∧∀(i:Int),List.Mem i (mkN (b6 h (s6 b E x_1)) x_1)→h≤i∧i < o)∧h=a21 E R M∧((arE E (mkN (b6 h (s6 b E x_1)) x_1)).length=d.length∧(arE E (mkN (b6 h (s6 b E x_1)) x_1)).length=d.length∧(∀(j:Nat),j < d.length→(b6 e0 (arE E (mkN (b6 h (s6 b E x_1)) x_1)) j).ag=(b6 e0 d j).ag)∧(∀(j:Nat),j < d.length→(b6 e0 (arE E (mkN (b6 h (s6 b E x_1)) x_1)) j).ix=(b6 e0 d j).ix)∧(∀(j:Nat),j < d.length→(b6 e0 (arE E
 (mkN (b6 h (s6 b E x_1)) x_1)) j).k=(b6 e0 d j).k)∧(∀(j:Nat),j < d.length→(b6 e0 (arE E (mkN (b6 h (s6 b E x_1)) x_1)) j).ob=(b6 e0 d j).ob)∧(∀(j:Nat),j < d.length→(b6 e0 (arE E (mkN (b6 h (s6 b E x_1)) x_1)) j).mu=(b6 e0 d j).mu)∧(∀(j:Nat),j < d.length→(b6 e0 (arE E (mkN (b6 h (s6 b E x_1)) x_1)) j).en=(b6 e0 d j).en)∧(∀(j:Nat),j < d.length→(b6 e0 (arE E (mkN (b6 h (s6 b E x_1)) x_1)) j).od=(b6 e0 d j).od)∧(∀(j:Nat),j < d.length→(b6 e0 (arE E (mkN (b6 h (s6 b E x_1)) x_1)) j).rd=(b6 e0 d j).rd)∧(∀(j:Nat),j < d.length→(b6 e0 (arE E (mkN (b6 h (s6 b E x_1)) x_1)) j).wr=(b6 e0 d j).wr)∧True)∧((orR R (mkN (b6 h (s6 b E x_1)) x_1)).length=n.length∧(orR R (mkN (b6 h (s6 b E x_1)) x_1)).length=n.length∧(∀(j:Nat),j < n.length→b6 h (orR R (mkN (b6 h (s6 b E x_1)) x_1)) j=b6 h n j)∧True)∧(YtaeeaniofljmnaaGreatDoor.orM M (mkN (b6 h (s6 b E x_1)) x_1)).length=f.length∧(YtaeeaniofljmnaaGreatDoor.orM M (mkN (b6 h (s6 b E x_1)) x_1)).length=f.length∧((∀(j:Nat),j < f.length→(b6 [] (YtaeeaniofljmnaaGreatDoor.orM M (mkN (b6 h (s6 b E x_1)) x_1)) j).length=(b6 [] f j).length)∧(∀(j:Nat),j < f.length→∀(i:Nat),i < (b6 [] f j).length→b6 h (b6 [] (YtaeeaniofljmnaaGreatDoor.orM M (mkN (b6 h (s6 b E x_1)) x_1)) j) i=b6 h (b6 [] f j) i)∧True)∧True))):=by kernel_rfl
theorem v21 (E:List Ev) (R:List Int) (M:List (List Int)) (h:SzG E M):q21D E R M:=by
 rw[d7b]
 have hd:(ByteArray.mk #[112,114,115]).size≤1099511627776:=by decide
 cases hv:b8 E R M
 ·simp only[eq_self,true_and,and_true,z0n,imp_self,l9,m6,n5,g7,g8,PLoop.of,q6,AV.len,g9,z0s,i9,j4,j5,l5,l6,l7,a21,y8,hv,f8,l8,z0l,Bool.false_and,z3n]
  exact⟨⟨⟨h.1,h.2⟩,hd⟩,by simp⟩
 obtain⟨hG,hN⟩:=a06 hv h
 obtain⟨hM,hR⟩:=a1a hv
 have hQ:(uQ E R M).length≤1099511627776:=d18 _ hN
 simp only[eq_self,true_and,and_true,z0n,imp_self,l9,m6,n5,g7,g8,PLoop.of,q6,AV.len,g9,z0s,i9,j4,j5,l5,l6,l7,lQ2,lQ3,l8,z0f,c7p]
 have hK:y8 E R M=okQ (uQ E R M) E:=by simp[y8,hv]
 have hE:a21 E R M=bif okQ (uQ E R M) E then 0 else 20:=by simp[a21,hv]
 have hO:z6 E R M=s6 (uQ E R M) E E.length:=rfl
 have hU:b7 E.length (j8 (ByteArray.mk #[112,114,115]) E R M)=uQ E R M:=rfl
 simp only[hK,hE,hO,hU,z0n,true_and]
 generalize uQ E R M=P at *
 refine⟨⟨⟨h.1,h.2⟩,hd⟩,fun hc=>(by cases hc),fun _=>⟨(),⟨0,⟨by omega,rfl⟩,rfl,rfl,rfl⟩,fun s hs=>⟨fun hls=>?_,fun hls=>?_⟩⟩⟩
 ·have hs2:s < E.length:=by have:=z0e hls; omega
  have hlen:=a6d P E s
  refine⟨s,⟨0,⟨by omega,hs2⟩,rfl,rfl⟩,fun i hi=>⟨fun hli=>?_,fun hli=>⟨fun hb=>?_,fun hb=>?_⟩⟩⟩
  ·have hi2:i < E.length:=by have:=z0e hli; omega
   have hb:=a7f (a22 P (s6 P E s)) E i
   have hw:=wrS (n:=E.length) hi2 (by omega)
   have hin2:decide (m5 (a22 P (s6 P E s)) E i < 0)=false→0≤m5 (a22 P (s6 P E s)) E i∧m5 (a22 P (s6 P E s)) E i < E.length:=fun h1=>by
    have:=z0i h1; omega
   have e:m5 (a22 P (s6 P E s)) E (i + 1)=bif (decide (y6 (s6 P E s) i < 0) && b07 P (s6 P E s) i) && (decide (m5 (a22 P (s6 P E s)) E i < 0) || decide ((b6 e0 E i).ag < (b6 e0 E (m5 (a22 P (s6 P E s)) E i).toNat).ag)) then(i:Int) else m5 (a22 P (s6 P E s)) E i:=rfl
   refine⟨by omega,fun _=>⟨hQ,by omega⟩,fun _ _=>⟨by omega,by omega⟩,fun _ _=>hi2,fun h1 _=>hin2 h1,fun h1 _=>a0t (hin2 h1),fun hc=>⟨i + 1,⟨by omega,hs2⟩,by omega,?_,hw⟩,fun hc=>⟨i + 1,⟨by omega,hs2⟩,by omega,?_,hw⟩⟩
   ·rw[e,hc]; rfl
   ·rw[e,hc]; rfl
  ·have hi2:i=E.length:=by have:=z0i hli; omega
   subst hi2
   have:okQ P E=false:=a0r hs2 (by rw[okS,z1m]; simpa using hb)
   rw[this]
   exact⟨rfl,rfl,rfl,rfl⟩
  ·have hi2:i=E.length:=by have:=z0i hli; omega
   subst hi2
   refine⟨by omega,by omega,s + 1,⟨by omega,?_⟩,by omega,rfl,rfl,fun k hk=>?_⟩
   ·simp only[m8,hs.2,z1h,okS,z1m]
    simpa using hb
   ·have e:s6 P E (s + 1)=s6 P E s ++ [m5 (a22 P (s6 P E s)) E E.length]:=rfl
    rw[e]
    cases hb:Nat.blt k s
    ·obtain rfl:=a51 hb hk
     rw[z0l]
     have:=a6u (0:Int) (l:=s6 P E k) (x:=m5 (a22 P (s6 P E k)) E E.length)
     rw[a6d] at this
     rw[this]; rfl
    ·rw[z0f,a5i (0:Int) (by rw[a6d]; rwa [z0u] at hb)]
 ·have hs2:s=E.length:=by have:=z0i hls; omega
  subst hs2
  have:okQ P E=true:=hs.2
  rw[this]
  refine⟨⟨⟨by rw[a6d]; exact hN,hR,hM⟩,h.2 hM,d5q (z0q _) hs.2⟩,?_⟩
  simp only[f8,z0f,z0n,and_self,true_and,and_true]
theorem n21 (nm:List (Option AV)):CallOk Tryz.prog [] 21 (o5 EL none nm [PG] c9a):=x4 Tryz.func21 fo21 fun av pre rv h=>by
 unfold c9a at h; split at h <;> cases h
 exact⟨⟨rfl,fun t a e=>by cases e <;> exact z0h _ _⟩,fun hp=>⟨_,v21 _ _ _ (hp _ (.head _)),rfl,(m9 (n50 _) (m9 (n66 _) (m9 (n67 _) (m9 (n68 _) t9)))),u4⟩⟩
structure VG (E:List Ev) (R:List Int) (M:List (List Int)):Prop where
 n:E.length≤64
 ev:∀ i:Int,0≤i→i < E.length→q9 (evA E i)=true
 src:∀ i:Int,0≤i→i < E.length→a1n E R i=true
 ob:∀ i:Int,0≤i→i < E.length→wrE (evA E i)=true→0≤(evA E i).ob∧(evA E i).ob < M.length
 mem:∀ i:Int,0≤i→i < E.length→wrE (evA E i)=true→i∈x6 M (evA E i).ob
 row:∀ o:Nat,o < M.length→(x6 M o).Nodup∧∀ x∈x6 M o,(0≤x∧x < E.length)∧wrE (evA E x)=true∧(evA E x).ob=o
theorem vg {E:List Ev} {R:List Int} {M:List (List Int)} (hv:b8 E R M=true):VG E R M:=by
 simp only[b8,z0d,z1i] at hv
 obtain⟨⟨⟨⟨⟨a1,a2⟩,a3⟩,a4⟩,a5⟩,a6⟩:=hv
 have hev:∀ i:Int,0≤i→i < E.length→a6p E M.length i=true:=fun i h0 h1=>by
  have:=a02.1 a4 i.toNat (by omega)
  rwa [z1q h0] at this
 have hob:=c3k a4
 have hrw:(a1m E M M.length && (((v6 M M.length).length:Int) == a2a E E.length))=true:=by rw[b8d hob]; exact a6
 simp only[z0d] at hrw
 have hrg:=a4w.1 hrw.1
 refine⟨a1,fun i h0 h1=>?_,fun i h0 h1=>?_,hob,fun i h0 h1 hw=>?_,fun o ho=>?_⟩
 ·have h:=hev i h0 h1
  simp only[a6p,z0d] at h
  exact h.1.1.1.1.1
 ·have:=a02.1 a5 i.toNat (by omega)
  rwa [z1q h0] at this
 ·have ho:=hob i h0 h1 hw
  have h:=a02.1 a6 (evA E i).ob.toNat (by omega)
  rw[z1q ho.1] at h
  exact(a89.1 h).1 i (a4x.2 ⟨h0,h1,a2i.2 ⟨hw,rfl⟩⟩)
 ·obtain⟨h1,h2⟩:=a2f.1 (hrg o ho)
  exact⟨h2,fun x hx=>⟨(h1 x hx).1,(h1 x hx).2.2.1,(h1 x hx).2.2.2⟩⟩
section
variable {E:List Ev} {R:List Int} {M:List (List Int)}
theorem c84 {f:Int→Option Int} {l:List Int} {x:Int}:∀ {q:Nat},(∀ j,j < q→b6 0 l j≠x)→a4o f l q x=f x:=by
 intro q
 induction q with
 | zero=>intro _; rfl
 | succ q ih =>
  intro h
  have h1:(x == b6 0 l q)=false:=by simpa using fun e=>h q (by omega) e.symm
  simp only[a4o,h1,z0l]
  exact ih fun j hj=>h j (by omega)
theorem d1k {f:Int→Option Int} {l:List Int} {x:Int} {j:Nat} (hx:b6 0 l j=x):∀ {q:Nat},j < q→(∀ i,j < i→i < q→b6 0 l i≠x)→a4o f l q x=some (j:Int):=by
 intro q
 induction q with
 | zero=>intro h; omega
 | succ q ih =>
  intro h hn
  by_cases e:j=q
  ·subst e
   have h1:(x == b6 0 l j)=true:=by rw[hx]; simp
   simp only[a4o,h1,z0f]
  ·have h1:(x == b6 0 l q)=false:=by simpa using fun e=>hn q (by omega) (by omega) e.symm
   simp only[a4o,h1,z0l]
   exact ih (by omega) fun i h1 h2=>hn i h1 (by omega)
theorem c3p {l:List Int} (h:l.Nodup) {i j:Nat} (hi:i < l.length) (hj:j < l.length) (e:b6 0 l i=b6 0 l j):i=j:=by
 rw[o6 0 l i hi,o6 0 l j hj] at e
 have hp:=List.pairwise_iff_getElem.1 h
 rcases Nat.lt_trichotomy i j with hl | hl | hl
 ·exact absurd e (hp i j hi hj hl)
 ·exact hl
 ·exact absurd e.symm (hp j i hj hi hl)
theorem d15 {l:List Int} {x:Int} (h:x∈l):∃ j,j < l.length∧b6 0 l j=x:=by
 obtain⟨j,hj,e⟩:=z3u.1 h
 exact⟨j,hj,by rw[o6 0 l j hj]; exact e⟩
theorem c7y {l:List Int} {j:Nat} (hj:j < l.length):b6 0 l j∈l:=by rw[o6 0 l j hj]; exact z1r hj
def onG (E:List Ev) (f g:Pf):Prop:=∀ i k:Int,0≤i→i < E.length→0≤k→k < E.length→f i k=g i k
theorem c9p (h:VG E R M) {i:Int} (h0:0≤i) (h1:i < E.length) (hr:rdE (evA E i)=true):inA R i = -1∨((0≤inA R i∧inA R i < E.length)∧wrE (evA E (inA R i))=true∧(evA E (inA R i)).ob=(evA E i).ob):=by
 have h:=h.src i h0 h1
 unfold a1n at h
 rw[hr] at h
 by_cases hb:inA R i < 0∨inA R i ≥ E.length
 ·have e:(decide (inA R i < 0) || decide (inA R i ≥ E.length))=true:=by simpa using hb
  simp only[z2p,z0l,e,z0f,beq_iff_eq] at h
  exact .inl h
 ·have e:(decide (inA R i < 0) || decide (inA R i ≥ E.length))=false:=by simp only[z1k,z1g]; omega
  simp only[z2p,z0l,e,z0d,beq_iff_eq] at h
  exact .inr ⟨by omega,h.1.2,h.2⟩
theorem c9o (h:VG E R M) {i:Int} (h0:0≤i) (h1:i < E.length) (hr:rdE (evA E i)=false):inA R i = -2:=by
 have h:=h.src i h0 h1
 unfold a1n at h
 rw[hr] at h
 simpa using h
theorem c7r {e:Ev} (h:q9 e=true):a7r e=b01 e:=by
 simp only[q9,z0d] at h
 have h:=h.2
 unfold a7r b01
 cases h1:(e.k == 9 || e.k == 10 || e.k == 11)
 ·simp only[z0l]
  cases h2:(e.k == 12)
  ·rw[h2] at h
   simp only[z0l,beq_iff_eq] at h
   simp only[z0l,h]
  ·rfl
 ·rfl
theorem e0q (h:VG E R M):onG E (i5 E R M) (syG E R M):=fun i k hi0 hi hk0 hk=>by
 unfold i5 syG b0e c9g
 rw[c7r (h.ev i hi0 hi),c7r (h.ev k hk0 hk)]
theorem d5b {a b c a' b' c':Pf} (ha:onG E a a') (hb:onG E b b') (hc:onG E c c'):a3v E.length a b c=a5p E.length (fun i k=>a' i k || b' i k || c' i k):=by
 have:d7 (b7 E.length a ++ b7 E.length b ++ b7 E.length c)=d7 (b7 E.length (fun i k=>a' i k || b' i k || c' i k)):=by
  funext i k
  rw[z3b,b51,b51]
  simp only[z1u,a3c]
  constructor
  ·rintro ((⟨h1,h2,h3,h4,h5⟩ | ⟨h1,h2,h3,h4,h5⟩) | ⟨h1,h2,h3,h4,h5⟩)
   ·exact⟨h1,h2,h3,h4,.inl (.inl (by rw[← ha i k h1 h2 h3 h4]; exact h5))⟩
   ·exact⟨h1,h2,h3,h4,.inl (.inr (by rw[← hb i k h1 h2 h3 h4]; exact h5))⟩
   ·exact⟨h1,h2,h3,h4,.inr (by rw[← hc i k h1 h2 h3 h4]; exact h5)⟩
  ·rintro ⟨h1,h2,h3,h4,h5⟩
   rw[← ha i k h1 h2 h3 h4,← hb i k h1 h2 h3 h4,← hc i k h1 h2 h3 h4] at h5
   rcases h5 with(h5 | h5) | h5
   ·exact .inl (.inl ⟨h1,h2,h3,h4,h5⟩)
   ·exact .inl (.inr ⟨h1,h2,h3,h4,h5⟩)
   ·exact .inr ⟨h1,h2,h3,h4,h5⟩
 rw[a3v,a5p,this]
end
section
variable {E:List Ev} {R:List Int} {M:List (List Int)}
end
end Go.Proofs.YtaeeaniofljmnaaGreatDoor
