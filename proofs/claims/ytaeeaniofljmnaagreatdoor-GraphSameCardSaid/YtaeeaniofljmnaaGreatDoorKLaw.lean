/-
  A part of the proof (KLaw).
-/
import Derived.Test.YtaeeaniofljmnaaGreatDoorK57
import Derived.Test.YtaeeaniofljmnaaGreatDoorKV3
import Derived.Test.YtaeeaniofljmnaaGreatDoorK35a
import Derived.Test.YtaeeaniofljmnaaGreatDoorK51a
import Derived.Test.YtaeeaniofljmnaaGreatDoorK40a
namespace Go.Proofs.YtaeeaniofljmnaaGreatDoor
set_option linter.unusedSimpArgs false
set_option linter.unusedVariables false
open Go Go.Proofs.YtaeeaniofljmnaaGreatDoor.Sx
set_option maxRecDepth 100000
theorem fo67:s5 Tryz.prog 67:=⟨Tryz.f67,Tryz.func67,by kernel_rfl,by kernel_rfl⟩
def q67D (N:Int) (P:List Pq) (L:List Int) (k:Int):Prop:=s4 (({ calls:=[c5w 66 []],loops:=[(0,.of (lAl (rdG P L k) P.length 7))] }:Kit)).tab Tryz.f67 [.agg [.i .i64 N,.sl 0 P.length],.sl 1 L.length,.i .i64 k] [.arr P.length (a1y P),.arr L.length (e8 L)] (m4 (.b (b0s P L k)))
theorem d9b (N:Int) (P:List Pq) (L:List Int) (k:Int):q67D N P L k=(
 let a:=(0:Int)
 let b:=(↑P.length:Int)
 let c:=PLoop.of (lAl (rdG P L k) P.length (7:Nat))
 let d:=mkN (b7 a L) L.length
 let e:=N=N∧P.length=P.length
 ∃(x:PUnit),(∃(x:Nat),(x≤P.length∧j8 (rdG P L k) x=true)∧(a=(↑x:Int)∧True)∧True)∧∀(x_1:Nat),x_1≤P.length∧j8 (rdG P L k) x_1=true→(decide ((↑x_1:Int) < b)=true→(a≤(↑x_1:Int)∧(↑x_1:Int) < b)∧x_1 < P.length∧(((b7 (a,a) P x_1).snd ==k)=true→a≤(↑x_1:Int)∧(↑x_1:Int) < b)∧(((b7 (a,a) P x_1).snd ==k)=true→x_1 < P.length)∧(((b7 (a,a) P x_1).snd ==k)=true→L.length=L.length)∧(((b7 (a,a) P x_1).snd ==k)=true→d.length≤(1099511627776:Nat))∧(((b7 (a,a) P x_1).snd ==k && decide (w9 d (b7 (a,a) P x_1).fst < a))=true→false=b0s P L k)∧(((b7 (a,a) P x_1).snd ==k && decide (w9 d (b7 (a,a) P x_1).fst < a))=false→∃(x_2:Nat),(x_2≤P.length∧j8 (rdG P L k) x_2=true)∧(c.ann x).mu x_2 < (c.ann x).mu x_1∧(e∧L.length=L.length∧k=k∧True∧IntKind.i64.wrap ((↑x_1:Int) + (1:Int))=(↑x_2:Int)∧True)∧eqA P.length (a1y P)∧eqA L.length (e8 L)∧e∧True))∧(decide ((↑x_1:Int) < b)=false→true=b0s P L k)):=by kernel_rfl
theorem v67 (N:Int) (P:List Pq) (L:List Int) (k:Int) (h:L9 P∧L40 L.length):q67D N P L k:=by
 rw[d9b]
 obtain⟨hP,hL⟩:=h
 have hP:P.length≤1099511627776:=hP
 have hL:L.length≤1099511627776:=hL
 simp only[eq_self,true_and,and_true,z0o,imp_self,o6,o8,p7,i7,i9,PLoop.of,s8,AV.len,j4,z0u,l4,l5,l6,m8,m9,n5,lAl]
 refine⟨(),⟨0,⟨by omega,rfl⟩,rfl⟩,fun j hj=>⟨fun hlj=>?_,fun hlj=>?_⟩⟩
 ·have hj2:j < P.length:=by have:=z0e hlj; omega
  refine⟨⟨by omega,by omega⟩,hj2,fun _=>⟨by omega,by omega⟩,fun _=>hj2,fun _=>hL,fun hc=>?_,fun hc=>⟨j + 1,⟨by omega,?_⟩,by omega,wrS (n:=P.length) hj2 hP⟩⟩
  ·exact(a06 hj2 (by rw[rdG,z0s,hc]; rfl)).symm
  ·simp only[j8,hj.2,z0y]
   rw[rdG,z0s,hc]; rfl
 ·have hj2:j=P.length:=by have:=z0i hlj; omega
  subst hj2
  exact hj.2.symm
theorem n67 (nm:List (Option AV)):CallOk Tryz.prog [] 67 (q6 EL none nm [.lf .r,.lf .is,.lf .i] d7s):=z4 Tryz.func67 fo67 fun av pre rv h=>by
 unfold d7s at h; split at h <;> cases h
 exact⟨⟨rfl,fun t a e=>by cases e <;> exact z0h _ _⟩,fun hp=>⟨_,v67 _ _ _ _ (hp _ (.head _)),rfl,(o5 (n66 _) v4),v5⟩⟩
theorem fo68:s5 Tryz.prog 68:=⟨Tryz.f68,Tryz.func68,by kernel_rfl,by kernel_rfl⟩
def q68D (E:List Ev) (R:List Int) (M:List (List Int)) (L:List Int):Prop:=s4 (({ calls:=[c5w 66 []],loops:=[(0,.of (lC2 E (fun i=>psO L (inA R i)) L 6 6 7 8 9)),(2,.of (lC3 M (w9 L) L.length 8 6 7 8 9)),(4,lC4 M (w9 L) 10 9 10)],takes:=[(2,fun _ _=>[.fresh 6 0 85 9,.fresh 6 1 3 1,.fresh 6 2 23 1,.cols 9 (i4 [])])] }:Kit)).tab Tryz.f68 [grV E R M,.sl 3 L.length] (grM E R M ++ [.arr L.length (e8 L)]) ((QV.gr none (arE E L) (orR R L) (orM M L)).post EL)
theorem d9c (E:List Ev) (R:List Int) (M:List (List Int)) (L:List Int):q68D E R M L=(
 let a:=(0:Int)
 let b:=E.length=E.length∧R.length=R.length∧M.length=M.length
 let c:=evA E
 let d:=YtaeeaniofljmnaaGreatDoor.orM M L
 let e:=(1:Nat)
 let f:=(0:Nat)
 let g:=arE E L
 let h:=True∧True∧True
 let l:=(↑L.length:Int)
 let m:=(9223372036854775807:Nat)
 let n:=(140737488355328:Nat)
 let o:=(↑M.length:Int)
 let p:=PLoop.of (lC3 M (w9 L) L.length (8:Nat) (6:Nat) (7:Nat) (8:Nat) (9:Nat))
 let r:=mkN (b7 a L) L.length
 let s:=lC4 M (w9 L) (10:Nat) (9:Nat) (10:Nat)
 let t:=(6:Nat)
 let u:=(8:Nat)
 f=f∧∃(x:PUnit),(∃(x:Nat),(x≤L.length∧True)∧(a=(↑x:Int)∧True)∧(f=x∧f=x∧f=f)∧(f=x∧x=f∧x=f∧x=f∧x=f∧x=f∧x=f∧x=f∧x=f∧x=f∧True)∧(f=x∧x=f∧True)∧True)∧∀(x_1:Nat),x_1≤L.length∧True→(decide ((↑x_1:Int) < l)=true→(a≤(↑x_1:Int)∧(↑x_1:Int) < l)∧x_1 < L.length∧(a≤b7 a L x_1∧b7 a L x_1 < (↑E.length:Int))∧(b7 a L x_1).toNat < E.length∧x_1=x_1∧e=e∧(x_1 + e) * (72:Nat)≤n∧x_1 + e≤m∧(a≤(↑x_1:Int)∧(↑x_1:Int) < l)∧x_1 < L.length∧(a≤b7 a L x_1∧b7 a L x_1 < (↑R.length:Int))∧(b7 a L x_1).toNat < R.length∧(decide (b7 a R (b7 a L x_1).toNat ≥ a)=true→L.length=L.length∧r.length≤(1099511627776:Nat)∧x_1=x_1∧e=e∧(x_1 + e) * u≤n∧x_1 + e≤m∧∃(x_2:Nat),(x_2≤L.length∧True)∧((PLoop.of (lC2 E (fun(i:Int)=>psO L (inA R i)) L t t (7:Nat) u (9:Nat))).ann x).mu x_2 < ((PLoop.of (lC2 E (fun(i:Int)=>psO L (inA R i)) L t t (7:Nat) u (9:Nat))).ann x).mu x_1∧(b∧L.length=L.length∧True∧True∧True∧IntKind.i64.wrap ((↑x_1:Int) + (1:Int))=(↑x_2:Int)∧h∧True)∧eqA E.length (i6 E)∧eqA R.length (e8 R)∧eqA M.length (i4 M)∧eqA L.length (e8 L)∧b∧h∧(x_1 + e=x_2∧x_1 + e=x_2∧f=f)∧(x_1 + e=x_2∧(∀(j:Nat),j < x_2→(bif j.blt x_1 then(b7 e0 (mpA c a L x_1) j).ag else g8 [(b7 e0 E (b7 a L x_1).toNat).ag] (j - x_1))=(b7 e0 (mpA c a L x_2) j).ag)∧(∀(j:Nat),j < x_2→(bif j.blt x_1 then(b7 e0 (mpA c a L x_1) j).ix else g8 [(b7 e0 E (b7 a L x_1).toNat).ix] (j - x_1))=(b7 e0 (mpA c a L x_2) j).ix)∧(∀(j:Nat),j < x_2→(bif j.blt x_1 then(b7 e0 (mpA c a L x_1) j).k else g8 [(b7 e0 E (b7 a L x_1).toNat).k] (j - x_1))=(b7 e0 (mpA c a L x_2)
 j).k)∧(∀(j:Nat),j < x_2→(bif j.blt x_1 then(b7 e0 (mpA c a L x_1) j).ob else g8 [(b7 e0 E (b7 a L x_1).toNat).ob] (j - x_1))=(b7 e0 (mpA c a L x_2) j).ob)∧(∀(j:Nat),j < x_2→(bif j.blt x_1 then(b7 e0 (mpA c a L x_1) j).mu else g8 [(b7 e0 E (b7 a L x_1).toNat).mu] (j - x_1))=(b7 e0 (mpA c a L x_2) j).mu)∧(∀(j:Nat),j < x_2→(bif j.blt x_1 then(b7 e0 (mpA c a L x_1) j).en else g8 [(b7 e0 E (b7 a L x_1).toNat).en] (j - x_1))=(b7 e0 (mpA c a L x_2) j).en)∧(∀(j:Nat),j < x_2→(bif j.blt x_1 then(b7 e0 (mpA c a L x_1) j).od else g8 [(b7 e0 E (b7 a L x_1).toNat).od] (j - x_1))=(b7 e0 (mpA c a L x_2) j).od)∧(∀(j:Nat),j < x_2→(bif j.blt x_1 then(b7 e0 (mpA c a L x_1) j).rd else g8 [(b7 e0 E (b7 a L x_1).toNat).rd] (j - x_1))=(b7 e0 (mpA c a L x_2) j).rd)∧(∀(j:Nat),j < x_2→(bif j.blt x_1 then(b7 e0 (mpA c a L x_1) j).wr else g8 [(b7 e0 E (b7 a L x_1).toNat).wr] (j - x_1))=(b7 e0 (mpA c a L x_2) j).wr)∧True)∧(x_1 + e=x_2∧(∀(j:Nat),j < x_2→(bif j.blt x_1 then b7 a (mpA (fun(i:Int)=>psO L (inA R i)) a L x_1) j else g8 [w9 r (b7 a R (b7 a L x_1).toNat)] (j - x_1))=b7 a (mpA (fun(i:Int)=>psO L (inA R i)) a L x_2) j)∧True)∧eqA f (i4 [])∧True)∧(decide (b7 a R (b7 a L x_1).toNat ≥ a)=false→x_1=x_1∧e=e∧(x_1 + e) * u≤n∧x_1 + e≤m∧∃(x_2:Nat),(x_2≤L.length∧True)∧((PLoop.of (lC2 E (fun(i:Int)=>psO L (inA R i)) L t t (7:Nat) u (9:Nat))).ann x).mu x_2 < ((PLoop.of (lC2 E (fun(i:Int)=>psO L (inA R i)) L t t (7:Nat) u (9:Nat))).ann x).mu x_1∧(b∧L.length=L.length∧True∧True∧True∧IntKind.i64.wrap ((↑x_1:Int) +
 (1:Int))=(↑x_2:Int)∧h∧True)∧eqA E.length (i6 E)∧eqA R.length (e8 R)∧eqA M.length (i4 M)∧eqA L.length (e8 L)∧b∧h∧(x_1 + e=x_2∧x_1 + e=x_2∧f=f)∧(x_1 + e=x_2∧(∀(j:Nat),j < x_2→(bif j.blt x_1 then(b7 e0 (mpA c a L x_1) j).ag else g8 [(b7 e0 E (b7 a L x_1).toNat).ag] (j - x_1))=(b7 e0 (mpA c a L x_2) j).ag)∧(∀(j:Nat),j < x_2→(bif j.blt x_1 then(b7 e0 (mpA c a L x_1) j).ix else g8 [(b7 e0 E (b7 a L x_1).toNat).ix] (j - x_1))=(b7 e0 (mpA c a L x_2) j).ix)∧(∀(j:Nat),j < x_2→(bif j.blt x_1 then(b7 e0 (mpA c a L x_1) j).k else g8 [(b7 e0 E (b7 a L x_1).toNat).k] (j - x_1))=(b7 e0 (mpA c a L x_2) j).k)∧(∀(j:Nat),j < x_2→(bif j.blt x_1 then(b7 e0 (mpA c a L x_1) j).ob else g8 [(b7 e0 E (b7 a L x_1).toNat).ob] (j - x_1))=(b7 e0 (mpA c a L x_2) j).ob)∧(∀(j:Nat),j < x_2→(bif j.blt x_1 then(b7 e0 (mpA c a L x_1) j).mu else g8 [(b7 e0 E (b7 a L x_1).toNat).mu] (j - x_1))=(b7 e0 (mpA c a L x_2) j).mu)∧(∀(j:Nat),j < x_2→(bif j.blt x_1 then(b7 e0 (mpA c a L x_1) j).en else g8 [(b7 e0 E (b7 a L x_1).toNat).en] (j - x_1))=(b7 e0 (mpA c a L x_2) j).en)∧(∀(j:Nat),j < x_2→(bif j.blt x_1 then(b7 e0 (mpA c a L x_1) j).od else g8 [(b7 e0 E (b7 a L x_1).toNat).od] (j - x_1))=(b7 e0 (mpA c a L x_2) j).od)∧(∀(j:Nat),j < x_2→(bif j.blt x_1 then(b7 e0 (mpA c a L x_1) j).rd else g8 [(b7 e0 E (b7 a L x_1).toNat).rd] (j - x_1))=(b7 e0 (mpA c a L x_2) j).rd)∧(∀(j:Nat),j < x_2→(bif j.blt x_1 then(b7 e0 (mpA c a L x_1) j).wr else g8 [(b7 e0 E (b7 a L x_1).toNat).wr] (j - x_1))=(b7 e0 (mpA c a L x_2)
 j).wr)∧True)∧(x_1 + e=x_2∧(∀(j:Nat),j < x_2→(bif j.blt x_1 then b7 a (mpA (fun(i:Int)=>psO L (inA R i)) a L x_1) j else g8 [b7 a R (b7 a L x_1).toNat] (j - x_1))=b7 a (mpA (fun(i:Int)=>psO L (inA R i)) a L x_2) j)∧True)∧eqA f (i4 [])∧True))∧(decide ((↑x_1:Int) < l)=false→∃(x:PUnit),(∃(x:Nat),(x≤M.length∧True)∧(a=(↑x:Int)∧True)∧(x_1=L.length∧x_1=L.length∧f=x)∧(f=x∧((∀(j:Nat),j < x→(b7 ([]:List Int) [] j).length=(b7 [] (mpA (fun(q:List Int)=>List.map (w9 L) q) [] M x) j).length)∧(∀(j:Nat),j < x→∀(i:Nat),i < (b7 [] (mpA (fun(q:List Int)=>List.map (w9 L) q) [] M x) j).length→b7 a (b7 ([]:List Int) [] j) i=b7 a (b7 [] (mpA (fun(q:List Int)=>List.map (w9 L) q) [] M x) j) i)∧True)∧True)∧True)∧∀(x_2:Nat),x_2≤M.length∧True→(decide ((↑x_2:Int) < o)=true→∃(x_3:Nat),(∃(x:Nat),(x≤(t8 M x_3).length∧x_3 < M.length)∧(a=(↑x:Int)∧f=x∧True)∧(f=x∧x=f∧True)∧True)∧∀(x_4:Nat),x_4≤(t8 M x_3).length∧x_3 < M.length→(a≤(↑x_2:Int)∧(↑x_2:Int) < o)∧x_2 < M.length∧(decide ((↑x_4:Int) < (↑(b7 [] M x_2).length:Int))=true→(a≤(↑x_2:Int)∧(↑x_2:Int) < o)∧x_2 < M.length∧(a≤(↑x_4:Int)∧(↑x_4:Int) < (↑(b7 [] M x_2).length:Int))∧x_4 < (b7 [] M x_2).length∧L.length=L.length∧r.length≤(1099511627776:Nat)∧x_4=x_4∧e=e∧(x_4 + e) * u≤n∧x_4 + e≤m∧∃(x:Nat),(x≤(t8 M x_3).length∧x_3 < M.length)∧(s.ann x_3).mu x < (s.ann x_3).mu x_4∧(b∧L.length=L.length∧True∧True∧True∧(↑x_1:Int)=(↑x_1:Int)∧(↑x_2:Int)=(↑x_2:Int)∧x_4 + e=x∧IntKind.i64.wrap ((↑x_4:Int) +
 (1:Int))=(↑x:Int)∧h∧(↑x_1:Int)=(↑x_1:Int)∧L.length=L.length∧l=l∧false=false∧(↑x_2:Int)=(↑x_2:Int)∧True∧M.length=M.length∧o=o∧true=true∧True)∧eqA E.length (i6 E)∧eqA R.length (e8 R)∧eqA M.length (i4 M)∧eqA L.length (e8 L)∧b∧h∧(L.length=L.length∧L.length=L.length∧x_2=x_2)∧eqA x_1 (i6 (mpA c a L x_1))∧eqA x_1 (e8 (mpA (fun(i:Int)=>psO L (inA R i)) a L x_1))∧eqA x_2 (i4 (mpA (fun(q:List Int)=>List.map (w9 L) q) [] M x_2))∧(x_4 + e=x∧(∀(j:Nat),j < x→(bif j.blt x_4 then b7 a (mpA (w9 L) a (t8 M x_3) x_4) j else g8 [w9 r (b7 a (b7 [] M x_2) x_4)] (j - x_4))=b7 a (mpA (w9 L) a (t8 M x_3) x) j)∧True)∧True)∧(decide ((↑x_4:Int) < (↑(b7 [] M x_2).length:Int))=false→x_4=x_4∧x_2=x_2∧e=e∧(x_2 + e) * (24:Nat)≤n∧x_2 + e≤m∧∃(x_5:Nat),(x_5≤M.length∧True)∧(p.ann x).mu x_5 < (p.ann x).mu x_2∧(b∧L.length=L.length∧True∧True∧True∧(↑x_1:Int)=(↑x_1:Int)∧IntKind.i64.wrap ((↑x_2:Int) + (1:Int))=(↑x_5:Int)∧h∧(↑x_1:Int)=(↑x_1:Int)∧L.length=L.length∧l=l∧false=false∧True)∧eqA E.length (i6 E)∧eqA R.length (e8 R)∧eqA M.length (i4 M)∧eqA L.length (e8 L)∧b∧h∧(L.length=L.length∧L.length=L.length∧x_2 + e=x_5)∧eqA x_1 (i6 (mpA c a L x_1))∧eqA x_1 (e8 (mpA (fun(i:Int)=>psO L (inA R i)) a L x_1))∧(x_2 + e=x_5∧((∀(j:Nat),j < x_5→(bif j.blt x_2 then(b7 [] (mpA (fun(q:List Int)=>List.map (w9 L) q) [] M x_2) j).length else x_4)=(b7 [] (mpA (fun(q:List Int)=>List.map (w9 L) q) [] M x_5) j).length)∧(∀(j:Nat),j < x_5→∀(i:Nat),i < (b7 [] (mpA (fun(q:List Int)=>List.map (w9 L) q) [] M x_5) j).length→(bif j.blt x_2 then
 fun(i:Nat)=>b7 a (b7 [] (mpA (fun(q:List Int)=>List.map (w9 L) q) [] M x_2) j) i else b7 a (mpA (w9 L) a (t8 M x_3) x_4)) i=b7 a (b7 [] (mpA (fun(q:List Int)=>List.map (w9 L) q) [] M x_5) j) i)∧True)∧True)∧True))∧(decide ((↑x_2:Int) < o)=false→(L.length=g.length∧x_1=g.length∧(∀(j:Nat),j < g.length→(b7 e0 (mpA c a L x_1) j).ag=(b7 e0 g j).ag)∧(∀(j:Nat),j < g.length→(b7 e0 (mpA c a L x_1) j).ix=(b7 e0 g j).ix)∧(∀(j:Nat),j < g.length→(b7 e0 (mpA c a L x_1) j).k=(b7 e0 g j).k)∧(∀(j:Nat),j < g.length→(b7 e0 (mpA c a L x_1) j).ob=(b7 e0 g j).ob)∧(∀(j:Nat),j < g.length→(b7 e0 (mpA c a L x_1) j).mu=(b7 e0 g j).mu)∧(∀(j:Nat),j < g.length→(b7 e0 (mpA c a L x_1) j).en=(b7 e0 g j).en)∧(∀(j:Nat),j < g.length→(b7 e0 (mpA c a L x_1) j).od=(b7 e0 g j).od)∧(∀(j:Nat),j < g.length→(b7 e0 (mpA c a L x_1) j).rd=(b7 e0 g j).rd)∧(∀(j:Nat),j < g.length→(b7 e0 (mpA c a L x_1) j).wr=(b7 e0 g j).wr)∧True)∧(L.length=(orR R L).length∧x_1=(orR R L).length∧(∀(j:Nat),j < (orR R L).length→b7 a (mpA (fun(i:Int)=>psO L (inA R i)) a L x_1) j=b7 a (orR R L) j)∧True)∧x_2=d.length∧x_2=d.length∧((∀(j:Nat),j < d.length→(b7 [] (mpA (fun(q:List Int)=>List.map (w9 L) q) [] M x_2) j).length=(b7 [] d j).length)∧(∀(j:Nat),j < d.length→∀(i:Nat),i < (b7 [] d j).length→b7 a (b7 [] (mpA (fun(q:List Int)=>List.map (w9 L) q) [] M x_2) j) i=b7 a (b7 [] d j) i)∧True)∧True))):=by kernel_rfl
theorem v68 (E:List Ev) (R:List Int) (M:List (List Int)) (L:List Int) (h:pcA E R M L):q68D E R M L:=by
 rw[d9c]
 obtain⟨⟨hL,hR,hM⟩,hS,hO⟩:=h
 have hrow:∀ o,o < M.length→(b7 [] M o).length≤1099511627776:=fun o ho=>hS _ (by rw[m7 [] M _ ho]; exact z1v ho)
 have hin:∀ j,j < L.length→0≤b7 0 L j∧b7 0 L j < E.length:=fun j hj=>hO _ (by rw[m7 0 L _ hj]; exact z1v hj)
 simp only[eq_self,true_and,and_true,z0o,imp_self,o6,o8,p7,i7,i9,PLoop.of,s8,AV.len,j4,z0u,l4,l5,l6,m8,m9,n5,lC2,lC3,lC4]
 refine⟨(),⟨0,by simp⟩,fun p hp=>⟨fun hlp=>?_,fun hlp=>?_⟩⟩
 ·have hp2:p < L.length:=by have:=z0e hlp; omega
  have hi:=hin p hp2
  have hw:=wrS (n:=L.length) hp2 (by omega)
  refine⟨⟨by omega,by omega⟩,hp2,hi,by omega,by omega,by omega,⟨by omega,by omega⟩,hp2,by omega,by omega,fun hc=>⟨by omega,by omega,by omega,p + 1,by omega,by omega,hw,⟨rfl,rfl⟩,⟨rfl,a0b Ev.ag rfl,a0b Ev.ix rfl,a0b Ev.k rfl,a0b Ev.ob rfl,a0b Ev.mu rfl,a0b Ev.en rfl,a0b Ev.od rfl,a0b Ev.rd rfl,a0b Ev.wr rfl⟩,rfl,b1r ?_⟩,fun hc=>⟨by omega,by omega,p + 1,by omega,by omega,hw,⟨rfl,rfl⟩,⟨rfl,a0b Ev.ag rfl,a0b Ev.ix rfl,a0b Ev.k rfl,a0b Ev.ob rfl,a0b Ev.mu rfl,a0b Ev.en rfl,a0b Ev.od rfl,a0b Ev.rd rfl,a0b Ev.wr rfl⟩,rfl,b1r ?_⟩⟩
  ·unfold psO inA; rw[hc]; rfl
  ·unfold psO inA; rw[hc]; rfl
 have hp2:p=L.length:=by have:=z0i hlp; omega
 subst hp2
 refine⟨(),⟨0,by simp⟩,fun o ho=>⟨fun hlo=>?_,fun hlo=>?_⟩⟩
 ·have ho2:o < M.length:=by have:=z0e hlo; omega
  have hro:=hrow o ho2
  have hx:t8 M o=b7 [] M o:=rfl
  refine⟨o,⟨0,by simp[ho2]⟩,fun q hq=>⟨⟨by omega,by omega⟩,ho2,fun hlq=>?_,fun hlq=>?_⟩⟩
  ·have hq2:q < (b7 [] M o).length:=by have:=z0e hlq; omega
   exact⟨⟨by omega,by omega⟩,ho2,⟨by omega,by omega⟩,hq2,by omega,by omega,by omega,q + 1,⟨by rw[hx]; omega,ho2⟩,by rw[hx]; omega,⟨rfl,wrS (n:=(b7 [] M o).length) hq2 hro⟩,rfl,b1r rfl⟩
  ·have hq2:q=(b7 [] M o).length:=by have:=z0i hlq; have:=hq.1; rw[hx] at this; omega
   have e:mpA (w9 L) 0 (t8 M o) q=(b7 [] M o).map (w9 L):=by rw[hq2,← hx,a53]
   rw[e]
   refine⟨by omega,by omega,o + 1,by omega,by omega,wrS (n:=M.length) ho2 (by omega),rfl,rfl,fun j hj=>?_,fun j hj i _=>?_⟩
   ·cases hb:Nat.blt j o
    ·obtain rfl:=a9e hb hj
     rw[z0l,c0e,z2k,hq2]
    ·rw[z0f,c0f (by rwa [z0x] at hb)]
   ·cases hb:Nat.blt j o
    ·obtain rfl:=a9e hb hj
     rw[z0l,c0e]
    ·rw[z0f,c0f (by rwa [z0x] at hb)]
 have ho2:o=M.length:=by have:=z0i hlo; omega
 subst ho2
 have e1:mpA (evA E) 0 L L.length=arE E L:=a53 _ _ _
 have e2:mpA (fun i=>psO L (inA R i)) 0 L L.length=orR R L:=a53 _ _ _
 have e3:mpA (fun q:List Int=>q.map (w9 L)) [] M M.length=orM M L:=a53 _ _ _
 rw[e1,e2,e3]
 have l1:L.length=(arE E L).length:=by simp[arE]
 have l2:L.length=(orR R L).length:=by simp[orR]
 have l3:M.length=(orM M L).length:=by simp[orM]
 simp only[z0o,and_true,true_and]
 exact⟨⟨l1,l1⟩,⟨l2,l2⟩,l3,l3⟩
theorem n68 (nm:List (Option AV)):CallOk Tryz.prog [] 68 (q6 EL none nm [PG,.lf .is] d7t):=z4 Tryz.func68 fo68 fun av pre rv h=>by
 unfold d7t at h; split at h <;> cases h
 exact⟨⟨rfl,fun t a e=>by cases e <;> exact z0h _ _⟩,fun hp=>⟨_,v68 _ _ _ _ (hp _ (.head _)),rfl,(o5 (n66 _) v4),v5⟩⟩
def a2b (P:List Pq) (L:List Int) (i:Int):Bool:=decide (w9 L i < 0) && b0s P L i
def t7 (P:List Pq) (E:List Ev):Nat→List Int
 | 0=>[]
 | s + 1=>t7 P E s ++ [n8 (a2b P (t7 P E s)) E E.length]
theorem a4n (P:List Pq) (E:List Ev):∀ s,(t7 P E s).length=s:=by
 intro s
 induction s with
 | zero=>rfl
 | succ s ih=>simp[t7,ih]
def okS (P:List Pq) (E:List Ev) (s:Int):Bool:=decide (n8 (a2b P (t7 P E s.toNat)) E E.length ≥ 0)
def okQ (P:List Pq) (E:List Ev):Bool:=j8 (okS P E) E.length
def uQ (E:List Ev) (R:List Int) (M:List (List Int)):List Pq:=b9 E.length (l9 ⟨#[112,114,115]⟩ E R M)
def d6 (E:List Ev) (R:List Int) (M:List (List Int)):Bool:=b8 E R M && okQ (uQ E R M) E
def j6 (E:List Ev) (R:List Int) (M:List (List Int)):Int:=bif b8 E R M then(bif okQ (uQ E R M) E then 0 else 20) else 1
def d7 (E:List Ev) (R:List Int) (M:List (List Int)):List Int:=t7 (uQ E R M) E E.length
def c2u (E:List Ev) (R:List Int) (M:List (List Int)):QV:=.gr (some (j6 E R M)) (d5 (d6 E R M) (arE E (d7 E R M))) (d5 (d6 E R M) (orR R (d7 E R M))) (d5 (d6 E R M) (orM M (d7 E R M)))
def d0k:SpG:=fun
 | [.ag [.es E,.is R,.rs M]]=>some ([SzG E M],c2u E R M)
 | _=>none
def e1m (nm:List (Option AV)):Nat × (List MBlk→List SV→Option AR):=(21,q6 EL none nm [PG] d0k)
def lQ2 (E:List Ev) (P:List Pq) (t o:Nat):LAnn where
 X:=Nat
 inv:=fun s=>s≤E.length∧j8 (okS P E) s=true
 slots:=fun s=>[(t,.sl o s)]
 mem:=fun s=>[(o,.oarr 3 s (e8 (t7 P E s)))]
 mu:=fun s=>E.length - s
 kill:=[o]
def lQ3 (E:List Ev) (P:List Pq) (t b:Nat):PLoop:=⟨Nat,fun s=>{ X:=Nat,inv:=fun i=>i≤E.length∧s < E.length,slots:=fun i=>[(t,.i .i64 (i:Int)),(b,.i .i64 (n8 (a2b P (t7 P E s)) E i))],mem:=fun _=>[],mu:=fun i=>E.length - i,kill:=[] }⟩
theorem c8s (P:List Pq) (E:List Ev) (s:Nat):mkN (b7 0 (t7 P E s)) s=t7 P E s:=by
 have:=i7 0 (t7 P E s)
 rwa [a4n] at this
theorem d71 {P:List Pq} {E:List Ev}:∀ {s:Nat},s≤E.length→j8 (okS P E) s=true→∀ i∈t7 P E s,0≤i∧i < E.length:=by
 intro s
 induction s with
 | zero=>intro _ _ i hi; cases hi
 | succ s ih =>
  intro hs h i hi
  simp only[j8,z0d,okS,z0s,z1m] at h
  have:=a7o (a2b P (t7 P E s)) E E.length
  simp only[t7,z0n,z0t] at hi
  rcases hi with hi | rfl
  ·exact ih (by omega) h.1 i hi
  ·omega
theorem fo21:s5 Tryz.prog 21:=⟨Tryz.f21,Tryz.func21,by kernel_rfl,by kernel_rfl⟩
def q21D (E:List Ev) (R:List Int) (M:List (List Int)):Prop:=s4 (({ calls:=[kNam (nmG E R M),c5w 66 [],kRdy (nmG E R M ++ [none,none,some (.ps (n6 (b8 E R M) (uQ E R M)))]),kReo (nmG E R M)],loops:=[(0,.of (lQ2 E (uQ E R M) 6 7)),(2,lQ3 E (uQ E R M) 8 7)] }:Kit)).tab Tryz.f21 [grV E R M] (grM E R M) ((c2u E R M).post EL)
theorem d8k (E:List Ev) (R:List Int) (M:List (List Int)):q21D E R M=(
 let a:=((bif b8 E R M then(↑E.length:Int) else(0:Int))=bif b8 E R M then(↑E.length:Int) else(0:Int))∧(AV.ps (n6 (b8 E R M) (b9 (↑E.length:Int) (l9 (ByteArray.mk #[(112:UInt8),(114:UInt8),(115:UInt8)]) E R M)))).len=(AV.ps (n6 (b8 E R M) (b9 (↑E.length:Int) (l9 (ByteArray.mk #[(112:UInt8),(114:UInt8),(115:UInt8)]) E R M)))).len
 let b:=uQ E R M
 let c:=n6 (b8 E R M) (b9 (↑E.length:Int) (l9 (ByteArray.mk #[(112:UInt8),(114:UInt8),(115:UInt8)]) E R M))
 let d:=d5 (d6 E R M) (arE E (d7 E R M))
 let e:=bif b8 E R M then(0:Int) else(1:Int)
 let f:=d5 (d6 E R M) (YtaeeaniofljmnaaGreatDoor.orM M (d7 E R M))
 let g:=E.length=E.length∧R.length=R.length∧M.length=M.length
 let h:=(0:Int)
 let l:=e=bif b8 E R M then h else(1:Int)
 let m:=a∧e=bif b8 E R M then h else(1:Int)
 let n:=d5 (d6 E R M) (orR R (d7 E R M))
 let o:=(↑E.length:Int)
 let p:=(1099511627776:Nat)
 let q:=n6 (b8 E R M) b
 let s:=lQ3 E b (8:Nat) (7:Nat)
 let t:=(0:Nat)
 let u:=True∧True∧True
 let v:=PLoop.of (lQ2 E b (6:Nat) (7:Nat))
 let w:=(1:Nat)
 E.length=E.length∧R.length=R.length∧M.length=M.length∧nE E∧nI R∧nR M∧((E.length≤p∧(M.length≤(8:Nat)→∀(r:List Int),List.Mem r M→r.length≤p))∧(ByteArray.mk #[(112:UInt8),(114:UInt8),(115:UInt8)]).size≤p)∧((e !=h)=true→e=j6 E R M∧d.length=t∧n.length=t∧f.length=t)∧((e !=h)=false→∃(x:PUnit),(∃(x:Nat),(x≤E.length∧j8 (okS b E) x=true)∧(t=x∧True)∧(t=x∧x=t∧True)∧True)∧∀(x_1:Nat),x_1≤E.length∧j8 (okS b E) x_1=true→(decide ((↑x_1:Int) < o)=true→∃(x_2:Nat),(∃(x:Nat),(x≤E.length∧x_2 < E.length)∧(h=(↑x:Int)∧(-1:Int)=n8 (a2b b (t7 b E x_2)) E x∧True)∧True)∧∀(x_3:Nat),x_3≤E.length∧x_2 < E.length→(decide ((↑x_3:Int) < o)=true→x_1=x_1∧(mkN (b7 h (t7 b E x_1)) x_1).length≤p∧(decide (w9 (mkN (b7 h (t7 b E x_1)) x_1) (↑x_3:Int) < h)=true→(AV.ps c).len=(AV.ps c).len)∧(decide (w9 (mkN (b7 h (t7 b E x_1)) x_1) (↑x_3:Int) < h)=true→mkN (fun(j:Nat)=>((b7 (h,h) c j).fst,(b7 (h,h) c j).snd)) (AV.ps c).len=n6 (b8 E R M) b)∧(decide (w9 (mkN (b7 h (t7 b E x_1)) x_1) (↑x_3:Int) < h)=true→x_1=x_1)∧(decide (w9 (mkN (b7 h (t7 b E x_1)) x_1) (↑x_3:Int) < h)=true→q.length≤p∧(mkN (b7 h (t7 b E x_1)) x_1).length≤p)∧(decide (n8 (a2b b (t7 b E x_2)) E x_3 < h)=false→(decide (w9 (mkN (b7 h (t7 b E x_1)) x_1) (↑x_3:Int) < h) && b0s q (mkN (b7 h (t7 b E x_1)) x_1) (↑x_3:Int))=true→h≤(↑x_3:Int)∧(↑x_3:Int) < o)∧(decide (n8 (a2b b (t7 b E x_2)) E x_3 < h)=false→(decide (w9 (mkN (b7 h (t7 b E x_1)) x_1) (↑x_3:Int) < h) && b0s q (mkN (b7 h (t7 b E x_1)) x_1) (↑x_3:Int))=true→x_3 < E.length)∧(decide (n8 (a2b b (t7 b E x_2))
 E x_3 < h)=false→(decide (w9 (mkN (b7 h (t7 b E x_1)) x_1) (↑x_3:Int) < h) && b0s q (mkN (b7 h (t7 b E x_1)) x_1) (↑x_3:Int))=true→h≤n8 (a2b b (t7 b E x_2)) E x_3∧n8 (a2b b (t7 b E x_2)) E x_3 < o)∧(decide (n8 (a2b b (t7 b E x_2)) E x_3 < h)=false→(decide (w9 (mkN (b7 h (t7 b E x_1)) x_1) (↑x_3:Int) < h) && b0s q (mkN (b7 h (t7 b E x_1)) x_1) (↑x_3:Int))=true→(n8 (a2b b (t7 b E x_2)) E x_3).toNat < E.length)∧((decide (w9 (mkN (b7 h (t7 b E x_1)) x_1) (↑x_3:Int) < h) && b0s q (mkN (b7 h (t7 b E x_1)) x_1) (↑x_3:Int) && (decide (n8 (a2b b (t7 b E x_2)) E x_3 < h) || decide ((b7 e0 E x_3).ag < (b7 e0 E (n8 (a2b b (t7 b E x_2)) E x_3).toNat).ag)))=true→∃(x:Nat),(x≤E.length∧x_2 < E.length)∧(s.ann x_2).mu x < (s.ann x_2).mu x_3∧(g∧True∧True∧True∧l∧x_1=x_1∧(↑x_3:Int)=n8 (a2b b (t7 b E x_2)) E x∧IntKind.i64.wrap ((↑x_3:Int) + (1:Int))=(↑x:Int)∧m∧g∧m∧a∧l∧l∧false=false∧x_1=x_1∧(↑x_1:Int)=(↑x_1:Int)∧True∧E.length=E.length∧o=o∧true=true∧True)∧eqA E.length (i6 E)∧eqA R.length (e8 R)∧eqA M.length (i4 M)∧g∧u∧eqP c∧a∧eqA x_1 (e8 (t7 b E x_1))∧True)∧((decide (w9 (mkN (b7 h (t7 b E x_1)) x_1) (↑x_3:Int) < h) && b0s q (mkN (b7 h (t7 b E x_1)) x_1) (↑x_3:Int) && (decide (n8 (a2b b (t7 b E x_2)) E x_3 < h) || decide ((b7 e0 E x_3).ag < (b7 e0 E (n8 (a2b b (t7 b E x_2)) E x_3).toNat).ag)))=false→∃(x:Nat),(x≤E.length∧x_2 < E.length)∧(s.ann x_2).mu x < (s.ann x_2).mu x_3∧(g∧True∧True∧True∧l∧x_1=x_1∧n8 (a2b b (t7 b E x_2)) E x_3=n8 (a2b b (t7 b E x_2)) E x∧IntKind.i64.wrap ((↑x_3:Int) +
 (1:Int))=(↑x:Int)∧m∧g∧m∧a∧l∧l∧false=false∧x_1=x_1∧(↑x_1:Int)=(↑x_1:Int)∧True∧E.length=E.length∧o=o∧true=true∧True)∧eqA E.length (i6 E)∧eqA R.length (e8 R)∧eqA M.length (i4 M)∧g∧u∧eqP c∧a∧eqA x_1 (e8 (t7 b E x_1))∧True))∧(decide ((↑x_3:Int) < o)=false→(decide (n8 (a2b b (t7 b E x_2)) E x_3 < h)=true→(20:Int)=j6 E R M∧d.length=t∧n.length=t∧f.length=t)∧(decide (n8 (a2b b (t7 b E x_2)) E x_3 < h)=false→x_1=x_1∧w=w∧(x_1 + w) * (8:Nat)≤(140737488355328:Nat)∧x_1 + w≤(9223372036854775807:Nat)∧∃(x_4:Nat),(x_4≤E.length∧j8 (okS b E) x_4=true)∧(v.ann x).mu x_4 < (v.ann x).mu x_1∧(g∧True∧True∧True∧l∧x_1 + w=x_4∧m∧g∧m∧a∧l∧l∧false=false∧True)∧eqA E.length (i6 E)∧eqA R.length (e8 R)∧eqA M.length (i4 M)∧g∧u∧eqP c∧a∧(x_1 + w=x_4∧(∀(j:Nat),j < x_4→(bif j.blt x_1 then b7 h (t7 b E x_1) j else g8 [n8 (a2b b (t7 b E x_2)) E x_3] (j - x_1))=b7 h (t7 b E x_4) j)∧True)∧True)))∧(decide ((↑x_1:Int) < o)=false→E.length=E.length∧R.length=R.length∧M.length=M.length∧nE E∧nI R∧nR M∧x_1=x_1∧(((mkN (b7 h (t7 b E x_1)) x_1).length≤(64:Nat)∧R.length=E.length∧M.length≤(8:Nat))∧(∀(r:List Int),List.Mem r M→r.length≤p)∧∀(i:Int),List.Mem i (mkN (b7 h (t7 b E x_1)) x_1)→h≤i∧i < o)∧h=j6 E R M∧((arE E (mkN (b7 h (t7 b E x_1)) x_1)).length=d.length∧(arE E (mkN (b7 h (t7 b E x_1)) x_1)).length=d.length∧(∀(j:Nat),j < d.length→(b7 e0 (arE E (mkN (b7 h (t7 b E x_1)) x_1)) j).ag=(b7 e0 d j).ag)∧(∀(j:Nat),j < d.length→(b7 e0 (arE E (mkN (b7 h (t7 b E x_1)) x_1)) j).ix=(b7 e0 d j).ix)∧(∀(j:Nat),j < d.length→(b7 e0 (arE E (mkN
 (b7 h (t7 b E x_1)) x_1)) j).k=(b7 e0 d j).k)∧(∀(j:Nat),j < d.length→(b7 e0 (arE E (mkN (b7 h (t7 b E x_1)) x_1)) j).ob=(b7 e0 d j).ob)∧(∀(j:Nat),j < d.length→(b7 e0 (arE E (mkN (b7 h (t7 b E x_1)) x_1)) j).mu=(b7 e0 d j).mu)∧(∀(j:Nat),j < d.length→(b7 e0 (arE E (mkN (b7 h (t7 b E x_1)) x_1)) j).en=(b7 e0 d j).en)∧(∀(j:Nat),j < d.length→(b7 e0 (arE E (mkN (b7 h (t7 b E x_1)) x_1)) j).od=(b7 e0 d j).od)∧(∀(j:Nat),j < d.length→(b7 e0 (arE E (mkN (b7 h (t7 b E x_1)) x_1)) j).rd=(b7 e0 d j).rd)∧(∀(j:Nat),j < d.length→(b7 e0 (arE E (mkN (b7 h (t7 b E x_1)) x_1)) j).wr=(b7 e0 d j).wr)∧True)∧((orR R (mkN (b7 h (t7 b E x_1)) x_1)).length=n.length∧(orR R (mkN (b7 h (t7 b E x_1)) x_1)).length=n.length∧(∀(j:Nat),j < n.length→b7 h (orR R (mkN (b7 h (t7 b E x_1)) x_1)) j=b7 h n j)∧True)∧(YtaeeaniofljmnaaGreatDoor.orM M (mkN (b7 h (t7 b E x_1)) x_1)).length=f.length∧(YtaeeaniofljmnaaGreatDoor.orM M (mkN (b7 h (t7 b E x_1)) x_1)).length=f.length∧((∀(j:Nat),j < f.length→(b7 [] (YtaeeaniofljmnaaGreatDoor.orM M (mkN (b7 h (t7 b E x_1)) x_1)) j).length=(b7 [] f j).length)∧(∀(j:Nat),j < f.length→∀(i:Nat),i < (b7 [] f j).length→b7 h (b7 [] (YtaeeaniofljmnaaGreatDoor.orM M (mkN (b7 h (t7 b E x_1)) x_1)) j) i=b7 h (b7 [] f j) i)∧True)∧True))):=by kernel_rfl
theorem v21 (E:List Ev) (R:List Int) (M:List (List Int)) (h:SzG E M):q21D E R M:=by
 rw[d8k]
 have hd:(ByteArray.mk #[112,114,115]).size≤1099511627776:=by decide
 cases hv:b8 E R M
 ·simp only[eq_self,true_and,and_true,z0o,imp_self,o6,o8,p7,i7,i9,PLoop.of,s8,AV.len,j4,z0u,l4,l5,l6,m8,m9,n5,j6,d6,hv,d5,n6,z0l,Bool.false_and,z3o]
  exact⟨⟨⟨h.1,h.2⟩,hd⟩,by simp⟩
 obtain⟨hG,hN⟩:=a0g hv h
 obtain⟨hM,hR⟩:=a14 hv
 have hQ:(uQ E R M).length≤1099511627776:=d2d _ hN
 simp only[eq_self,true_and,and_true,z0o,imp_self,o6,o8,p7,i7,i9,PLoop.of,s8,AV.len,j4,z0u,l4,l5,l6,m8,m9,n5,lQ2,lQ3,n6,z0f,c8s]
 have hK:d6 E R M=okQ (uQ E R M) E:=by simp[d6,hv]
 have hE:j6 E R M=bif okQ (uQ E R M) E then 0 else 20:=by simp[j6,hv]
 have hO:d7 E R M=t7 (uQ E R M) E E.length:=rfl
 have hU:b9 E.length (l9 (ByteArray.mk #[112,114,115]) E R M)=uQ E R M:=rfl
 simp only[hK,hE,hO,hU,z0o,true_and]
 generalize uQ E R M=P at *
 refine⟨⟨⟨h.1,h.2⟩,hd⟩,fun hc=>(by cases hc),fun _=>⟨(),⟨0,⟨by omega,rfl⟩,rfl,rfl,rfl⟩,fun s hs=>⟨fun hls=>?_,fun hls=>?_⟩⟩⟩
 ·have hs2:s < E.length:=by have:=z0e hls; omega
  have hlen:=a4n P E s
  refine⟨s,⟨0,⟨by omega,hs2⟩,rfl,rfl⟩,fun i hi=>⟨fun hli=>?_,fun hli=>⟨fun hb=>?_,fun hb=>?_⟩⟩⟩
  ·have hi2:i < E.length:=by have:=z0e hli; omega
   have hb:=a7o (a2b P (t7 P E s)) E i
   have hw:=wrS (n:=E.length) hi2 (by omega)
   have hin2:decide (n8 (a2b P (t7 P E s)) E i < 0)=false→0≤n8 (a2b P (t7 P E s)) E i∧n8 (a2b P (t7 P E s)) E i < E.length:=fun h1=>by
    have:=z0i h1; omega
   have e:n8 (a2b P (t7 P E s)) E (i + 1)=bif (decide (w9 (t7 P E s) i < 0) && b0s P (t7 P E s) i) && (decide (n8 (a2b P (t7 P E s)) E i < 0) || decide ((b7 e0 E i).ag < (b7 e0 E (n8 (a2b P (t7 P E s)) E i).toNat).ag)) then(i:Int) else n8 (a2b P (t7 P E s)) E i:=rfl
   refine⟨by omega,fun _=>⟨hQ,by omega⟩,fun _ _=>⟨by omega,by omega⟩,fun _ _=>hi2,fun h1 _=>hin2 h1,fun h1 _=>a10 (hin2 h1),fun hc=>⟨i + 1,⟨by omega,hs2⟩,by omega,?_,hw⟩,fun hc=>⟨i + 1,⟨by omega,hs2⟩,by omega,?_,hw⟩⟩
   ·rw[e,hc]; rfl
   ·rw[e,hc]; rfl
  ·have hi2:i=E.length:=by have:=z0i hli; omega
   subst hi2
   have:okQ P E=false:=a06 hs2 (by rw[okS,z0s]; simpa using hb)
   rw[this]
   exact⟨rfl,rfl,rfl,rfl⟩
  ·have hi2:i=E.length:=by have:=z0i hli; omega
   subst hi2
   refine⟨by omega,by omega,s + 1,⟨by omega,?_⟩,by omega,rfl,rfl,fun k hk=>?_⟩
   ·simp only[j8,hs.2,z0y,okS,z0s]
    simpa using hb
   ·have e:t7 P E (s + 1)=t7 P E s ++ [n8 (a2b P (t7 P E s)) E E.length]:=rfl
    rw[e]
    cases hb:Nat.blt k s
    ·obtain rfl:=a9e hb hk
     rw[z0l]
     have:=b0o (0:Int) (l:=t7 P E k) (x:=n8 (a2b P (t7 P E k)) E E.length)
     rw[a4n] at this
     rw[this]; rfl
    ·rw[z0f,a73 (0:Int) (by rw[a4n]; rwa [z0x] at hb)]
 ·have hs2:s=E.length:=by have:=z0i hls; omega
  subst hs2
  have:okQ P E=true:=hs.2
  rw[this]
  refine⟨⟨⟨by rw[a4n]; exact hN,hR,hM⟩,h.2 hM,d71 (z0r _) hs.2⟩,?_⟩
  simp only[d5,z0f,z0o,and_self,true_and,and_true]
theorem n21 (nm:List (Option AV)):CallOk Tryz.prog [] 21 (q6 EL none nm [PG] d0k):=z4 Tryz.func21 fo21 fun av pre rv h=>by
 unfold d0k at h; split at h <;> cases h
 exact⟨⟨rfl,fun t a e=>by cases e <;> exact z0h _ _⟩,fun hp=>⟨_,v21 _ _ _ (hp _ (.head _)),rfl,(o5 (n50 _) (o5 (n66 _) (o5 (n67 _) (o5 (n68 _) v4)))),v5⟩⟩
structure VG (E:List Ev) (R:List Int) (M:List (List Int)):Prop where
 n:E.length≤64
 ev:∀ i:Int,0≤i→i < E.length→t4 (evA E i)=true
 src:∀ i:Int,0≤i→i < E.length→a20 E R i=true
 ob:∀ i:Int,0≤i→i < E.length→wrE (evA E i)=true→0≤(evA E i).ob∧(evA E i).ob < M.length
 mem:∀ i:Int,0≤i→i < E.length→wrE (evA E i)=true→i∈x8 M (evA E i).ob
 row:∀ o:Nat,o < M.length→(x8 M o).Nodup∧∀ x∈x8 M o,(0≤x∧x < E.length)∧wrE (evA E x)=true∧(evA E x).ob=o
theorem vg {E:List Ev} {R:List Int} {M:List (List Int)} (hv:b8 E R M=true):VG E R M:=by
 simp only[b8,z0d,z1m] at hv
 obtain⟨⟨⟨⟨⟨a1,a2⟩,a3⟩,a4⟩,a5⟩,a6⟩:=hv
 have hev:∀ i:Int,0≤i→i < E.length→a6f E M.length i=true:=fun i h0 h1=>by
  have:=x4.1 a4 i.toNat (by omega)
  rwa [z1a h0] at this
 have hob:=c4i a4
 have hrw:(a1z E M M.length && (((w7 M M.length).length:Int) == a2h E E.length))=true:=by rw[b97 hob]; exact a6
 simp only[z0d] at hrw
 have hrg:=a56.1 hrw.1
 refine⟨a1,fun i h0 h1=>?_,fun i h0 h1=>?_,hob,fun i h0 h1 hw=>?_,fun o ho=>?_⟩
 ·have h:=hev i h0 h1
  simp only[a6f,z0d] at h
  exact h.1.1.1.1.1
 ·have:=x4.1 a5 i.toNat (by omega)
  rwa [z1a h0] at this
 ·have ho:=hob i h0 h1 hw
  have h:=x4.1 a6 (evA E i).ob.toNat (by omega)
  rw[z1a ho.1] at h
  exact(a8m.1 h).1 i (a57.2 ⟨h0,h1,a2n.2 ⟨hw,rfl⟩⟩)
 ·obtain⟨h1,h2⟩:=a2k.1 (hrg o ho)
  exact⟨h2,fun x hx=>⟨(h1 x hx).1,(h1 x hx).2.2.1,(h1 x hx).2.2.2⟩⟩
section
variable {E:List Ev} {R:List Int} {M:List (List Int)}
theorem c99 {f:Int→Option Int} {l:List Int} {x:Int}:∀ {q:Nat},(∀ j,j < q→b7 0 l j≠x)→a4u f l q x=f x:=by
 intro q
 induction q with
 | zero=>intro _; rfl
 | succ q ih =>
  intro h
  have h1:(x == b7 0 l q)=false:=by simpa using fun e=>h q (by omega) e.symm
  simp only[a4u,h1,z0l]
  exact ih fun j hj=>h j (by omega)
theorem d2o {f:Int→Option Int} {l:List Int} {x:Int} {j:Nat} (hx:b7 0 l j=x):∀ {q:Nat},j < q→(∀ i,j < i→i < q→b7 0 l i≠x)→a4u f l q x=some (j:Int):=by
 intro q
 induction q with
 | zero=>intro h; omega
 | succ q ih =>
  intro h hn
  by_cases e:j=q
  ·subst e
   have h1:(x == b7 0 l j)=true:=by rw[hx]; simp
   simp only[a4u,h1,z0f]
  ·have h1:(x == b7 0 l q)=false:=by simpa using fun e=>hn q (by omega) (by omega) e.symm
   simp only[a4u,h1,z0l]
   exact ih (by omega) fun i h1 h2=>hn i h1 (by omega)
theorem a8k {l:List Int} (h:l.Nodup) {i j:Nat} (hi:i < l.length) (hj:j < l.length) (e:b7 0 l i=b7 0 l j):i=j:=by
 rw[m7 0 l i hi,m7 0 l j hj] at e
 have hp:=List.pairwise_iff_getElem.1 h
 rcases Nat.lt_trichotomy i j with hl | hl | hl
 ·exact absurd e (hp i j hi hj hl)
 ·exact hl
 ·exact absurd e.symm (hp j i hj hi hl)
theorem b35 {l:List Int} {x:Int} (h:x∈l):∃ j,j < l.length∧b7 0 l j=x:=by
 obtain⟨j,hj,e⟩:=z2s.1 h
 exact⟨j,hj,by rw[m7 0 l j hj]; exact e⟩
theorem c0n {l:List Int} {j:Nat} (hj:j < l.length):b7 0 l j∈l:=by rw[m7 0 l j hj]; exact z1v hj
def onG (E:List Ev) (f g:Pf):Prop:=∀ i k:Int,0≤i→i < E.length→0≤k→k < E.length→f i k=g i k
theorem d0w (h:VG E R M) {i:Int} (h0:0≤i) (h1:i < E.length) (hr:rdE (evA E i)=true):inA R i = -1∨((0≤inA R i∧inA R i < E.length)∧wrE (evA E (inA R i))=true∧(evA E (inA R i)).ob=(evA E i).ob):=by
 have h:=h.src i h0 h1
 unfold a20 at h
 rw[hr] at h
 by_cases hb:inA R i < 0∨inA R i ≥ E.length
 ·have e:(decide (inA R i < 0) || decide (inA R i ≥ E.length))=true:=by simpa using hb
  simp only[z3j,z0l,e,z0f,beq_iff_eq] at h
  exact .inl h
 ·have e:(decide (inA R i < 0) || decide (inA R i ≥ E.length))=false:=by simp only[z1j,z1k]; omega
  simp only[z3j,z0l,e,z0d,beq_iff_eq] at h
  exact .inr ⟨by omega,h.1.2,h.2⟩
theorem d0v (h:VG E R M) {i:Int} (h0:0≤i) (h1:i < E.length) (hr:rdE (evA E i)=false):inA R i = -2:=by
 have h:=h.src i h0 h1
 unfold a20 at h
 rw[hr] at h
 simpa using h
theorem b8r {e:Ev} (h:t4 e=true):a83 e=b0l e:=by
 simp only[t4,z0d] at h
 have h:=h.2
 unfold a83 b0l
 cases h1:(e.k == 9 || e.k == 10 || e.k == 11)
 ·simp only[z0l]
  cases h2:(e.k == 12)
  ·rw[h2] at h
   simp only[z0l,beq_iff_eq] at h
   simp only[z0l,h]
  ·rfl
 ·rfl
theorem e1s (h:VG E R M):onG E (j7 E R M) (syG E R M):=fun i k hi0 hi hk0 hk=>by
 unfold j7 syG a41 a97
 rw[b8r (h.ev i hi0 hi),b8r (h.ev k hk0 hk)]
theorem d6j {a b c a' b' c':Pf} (ha:onG E a a') (hb:onG E b b') (hc:onG E c c'):a42 E.length a b c=a61 E.length (fun i k=>a' i k || b' i k || c' i k):=by
 have:f7 (b9 E.length a ++ b9 E.length b ++ b9 E.length c)=f7 (b9 E.length (fun i k=>a' i k || b' i k || c' i k)):=by
  funext i k
  rw[z2j,b5o,b5o]
  simp only[z1u,a3k]
  constructor
  ·rintro ((⟨h1,h2,h3,h4,h5⟩ | ⟨h1,h2,h3,h4,h5⟩) | ⟨h1,h2,h3,h4,h5⟩)
   ·exact⟨h1,h2,h3,h4,.inl (.inl (by rw[← ha i k h1 h2 h3 h4]; exact h5))⟩
   ·exact⟨h1,h2,h3,h4,.inl (.inr (by rw[← hb i k h1 h2 h3 h4]; exact h5))⟩
   ·exact⟨h1,h2,h3,h4,.inr (by rw[← hc i k h1 h2 h3 h4]; exact h5)⟩
  ·rintro ⟨h1,h2,h3,h4,h5⟩
   rw[← ha i k h1 h2 h3 h4,← hb i k h1 h2 h3 h4,← hc i k h1 h2 h3 h4] at h5
   rcases h5 with(h5 | h5) | h5
   ·exact .inl (.inl ⟨h1,h2,h3,h4,h5⟩)
   ·exact .inl (.inr ⟨h1,h2,h3,h4,h5⟩)
   ·exact .inr ⟨h1,h2,h3,h4,h5⟩
 rw[a42,a61,this]
end
section
variable {E:List Ev} {R:List Int} {M:List (List Int)}
end
end Go.Proofs.YtaeeaniofljmnaaGreatDoor
