/-
  A part of the proof (N27a).
-/
import Derived.Test.YtaeeaniofljmnaaGreatDoorNV2
namespace Go.Proofs.YtaeeaniofljmnaaGreatDoor
set_option linter.unusedSimpArgs false
set_option linter.unusedVariables false
open Go Go.Proofs.YtaeeaniofljmnaaGreatDoor.Sx
theorem c9d (E:List Ev):∀ j,0≤a20 E j∧a20 E j≤j:=by
 intro j
 induction j with
 | zero=>simp[a20]
 | succ j ih=>simp only[a20]; cases wrE (evA E j) <;> simp <;> omega
theorem c9q {E:List Ev} {m:Nat} (a4:a5y E m=true):∀ i:Int,0≤i→i < E.length→wrE (evA E i)=true→0≤(evA E i).ob∧(evA E i).ob < m:=fun i h0 h1 hw=>by
 have h:a6j E m i=true:=by
  have:=a2o.1 a4 i.toNat (by omega)
  rwa [z1s h0] at this
 simp only[a6j,z0d,hw,Bool.or_true,z1j,z0x,z1m] at h
 have hv:=h.1.1.1.1.1
 simp only[n7,z0d] at hv
 have ho:a17 (evA E i)=true:=hv.1.1.1.1.1.1.1.1.2
 have hk:(evA E i).k=2∨(evA E i).k=5:=by simpa [wrE] using hw
 refine⟨?_,by omega⟩
 rcases hk with hk | hk <;> simp[a17,hk,t6] at ho <;> omega
theorem b7d {E:List Ev} {o x:Int}:∀ {r L:List Int},a02 E o L (r ++ [x])=(a02 E o L r && (decide (0≤x) && decide (x < E.length) && !(L ++ r).contains x && wrE (evA E x) && (evA E x).ob == o)):=by
 intro r
 induction r with
 | nil=>intro L; simp[a02]
 | cons y r ih =>
  intro L
  simp only[List.cons_append,a02,ih,z1y,List.singleton_append,Bool.and_assoc,List.nil_append]
theorem b7e {E:List Ev} {o:Int} {L r:List Int} (h:a02 E o L r=true) (q:Nat):a02 E o L (r.take q)=true:=by
 obtain⟨h1,h2⟩:=a2u.1 h
 exact a2u.2 ⟨fun x hx=>h1 x (List.mem_of_mem_take hx),h2.sublist (List.take_sublist _ _)⟩
theorem b9w (L:List Int) (a:Int):(a10 (a27 L a) != 0)=L.contains a:=by
 unfold a27
 cases L.contains a <;> rfl
theorem b5u (L:List Int) (x a:Int):(bif a == x then some 1 else a27 L a)=a27 (L ++ [x]) a:=by
 unfold a27
 cases h:a == x
 ·have h2:a≠x:=by simpa using h
  have:(L ++ [x]).contains a=L.contains a:=by
   rw[z3i]; simp[h2]
  rw[this,z0m]
 ·have h2:a=x:=by simpa using h
  have:(L ++ [x]).contains a=true:=by simp[h2]
  rw[this]; rfl
theorem b5z {l:List Int} {q:Nat} (h:q < l.length):l.take (q + 1)=l.take q ++ [b8 0 l q]:=by
 rw[List.take_succ_eq_append_getElem h,s9 0 l q h]
theorem d0a {E:List Ev} {M:List (List Int)} {o q:Nat} (ho:o < M.length) (hl:∀ j:Int,0≤j→j < E.length→wrE (evA E j)=true→0≤(evA E j).ob∧(evA E j).ob < M.length) (h:a02 E o (t7 M o) ((x5 M o).take q)=false):p7 (a40 E M) M.length=false:=by
 rw[← c2p hl]
 have:a1i E M M.length=false:=by
  cases hr:a1i E M M.length
  ·rfl
  ·have:=b7e (a67.1 hr o ho) q
   rw[h] at this; cases this
 rw[this]; rfl
set_option maxRecDepth 100000
theorem fo33:o8 Tryz.prog 33:=⟨Tryz.f33,Tryz.func33,by kernel_rfl,by kernel_rfl⟩
def q33D (E:List Ev) (R:List Int) (M:List (List Int)):Prop:=n9 (({ g:=true,calls:=[kVe [none,some (.es E),some (.is R),some (.rs M)],kE1 80 rdE,kE1 81 wrE],loops:=[(0,.of (lV1 E R 43 4)),(3,.of (lV2 E M 104 5)),(5,lV3 E M 111 5)] }:Kit)).tab Tryz.f33 [.agg [.sl 1 E.length,.sl 2 R.length,.sl 3 M.length]] (tbl :: grM E R M) (l8 (.b (d6 E R M)))
theorem d58 (E:List Ev) (R:List Int) (M:List (List Int)):q33D E R M=(
 let a:=decide ((↑E.length:Int) > (64:Int)) || decide ((↑M.length:Int) > (8:Int)) || (↑R.length:Int) !=(↑E.length:Int)
 let b:=decide ((↑E.length:Int) > (64:Int)) || decide ((↑M.length:Int) > (8:Int))
 let c:=(↑E.length:Int)
 let d:=E.length=E.length∧R.length=R.length∧M.length=M.length
 let e:=(0:Int)
 let f:=c > (64:Int)
 let g:=PLoop.of (lV1 E R (43:Nat) (4:Nat))
 let h:=(↑M.length:Int)
 let j:=decide f || decide (h > (8:Int)) || (↑R.length:Int) !=c || !a5y E M.length
 let k:=(1:Int)
 let l:=a1j E R
 let m:=PLoop.of (lV2 E M (104:Nat) (5:Nat))
 let n:=lV3 E M (111:Nat) (5:Nat)
 (a=false→some tbl=some tbl)∧(a=false→E.length=E.length)∧(a=false→nE E)∧(a=false→E.length≤(1099511627776:Nat)∧e≤h)∧(j=true→false=d6 E R M)∧(j=false→∃(x:PUnit),(∃(x:Nat),(x≤E.length∧p7 l x=true)∧(e=(↑x:Int)∧e=a20 E x∧True)∧True)∧∀(x_1:Nat),x_1≤E.length∧p7 l x_1=true→(decide ((↑x_1:Int) < c)=true→(e≤(↑x_1:Int)∧(↑x_1:Int) < c)∧x_1 < E.length∧(e≤(↑x_1:Int)∧(↑x_1:Int) < (↑R.length:Int))∧x_1 < R.length∧((!rdE (b8 e0 E x_1))=true→((b8 e R x_1 !=(-2:Int))=true→false=d6 E R M)∧((b8 e R x_1 !=(-2:Int))=false→(wrE (b8 e0 E x_1)=true→∃(x_2:Nat),(x_2≤E.length∧p7 l x_2=true)∧(g.ann x).mu x_2 < (g.ann x).mu x_1∧(d∧True∧c=c∧IntKind.i64.wrap (a20 E x_1 + k)=a20 E x_2∧True∧E.length=E.length∧c=c∧c=c∧decide f=decide f∧decide f=decide f∧b=b∧b=b∧a=a∧a=a∧false=false∧True∧E.length=E.length∧c=c∧IntKind.i64.wrap ((↑x_1:Int) + k)=(↑x_2:Int)∧True)∧eqT∧eqA E.length (g9 E)∧eqA R.length (j6 R)∧eqA M.length (l4 M)∧d∧True)∧(wrE (b8 e0 E x_1)=false→∃(x_2:Nat),(x_2≤E.length∧p7 l x_2=true)∧(g.ann x).mu x_2 < (g.ann x).mu x_1∧(d∧True∧c=c∧a20 E x_1=a20 E x_2∧True∧E.length=E.length∧c=c∧c=c∧decide f=decide f∧decide f=decide f∧b=b∧b=b∧a=a∧a=a∧false=false∧True∧E.length=E.length∧c=c∧IntKind.i64.wrap ((↑x_1:Int) + k)=(↑x_2:Int)∧True)∧eqT∧eqA E.length (g9 E)∧eqA R.length (j6 R)∧eqA M.length (l4 M)∧d∧True)))∧((!rdE (b8 e0 E x_1))=false→((b8 e R x_1 ==(-1:Int))=true→(wrE (b8 e0 E x_1)=true→∃(x_2:Nat),(x_2≤E.length∧p7 l x_2=true)∧(g.ann x).mu x_2 < (g.ann x).mu x_1∧(d∧True∧c=c∧IntKind.i64.wrap (a20 E x_1 + k)=a20 E
 x_2∧True∧E.length=E.length∧c=c∧c=c∧decide f=decide f∧decide f=decide f∧b=b∧b=b∧a=a∧a=a∧false=false∧True∧E.length=E.length∧c=c∧IntKind.i64.wrap ((↑x_1:Int) + k)=(↑x_2:Int)∧True)∧eqT∧eqA E.length (g9 E)∧eqA R.length (j6 R)∧eqA M.length (l4 M)∧d∧True)∧(wrE (b8 e0 E x_1)=false→∃(x_2:Nat),(x_2≤E.length∧p7 l x_2=true)∧(g.ann x).mu x_2 < (g.ann x).mu x_1∧(d∧True∧c=c∧a20 E x_1=a20 E x_2∧True∧E.length=E.length∧c=c∧c=c∧decide f=decide f∧decide f=decide f∧b=b∧b=b∧a=a∧a=a∧false=false∧True∧E.length=E.length∧c=c∧IntKind.i64.wrap ((↑x_1:Int) + k)=(↑x_2:Int)∧True)∧eqT∧eqA E.length (g9 E)∧eqA R.length (j6 R)∧eqA M.length (l4 M)∧d∧True))∧((b8 e R x_1 ==(-1:Int))=false→((decide (b8 e R x_1 < e) || decide (b8 e R x_1 ≥ c) || b8 e R x_1 ==(↑x_1:Int))=false→e≤b8 e R x_1∧b8 e R x_1 < c)∧((decide (b8 e R x_1 < e) || decide (b8 e R x_1 ≥ c) || b8 e R x_1 ==(↑x_1:Int))=false→(b8 e R x_1).toNat < E.length)∧((decide (b8 e R x_1 < e) || decide (b8 e R x_1 ≥ c) || b8 e R x_1 ==(↑x_1:Int) || !wrE (b8 e0 E (b8 e R x_1).toNat))=false→e≤b8 e R x_1∧b8 e R x_1 < c)∧((decide (b8 e R x_1 < e) || decide (b8 e R x_1 ≥ c) || b8 e R x_1 ==(↑x_1:Int) || !wrE (b8 e0 E (b8 e R x_1).toNat))=false→(b8 e R x_1).toNat < E.length)∧((decide (b8 e R x_1 < e) || decide (b8 e R x_1 ≥ c) || b8 e R x_1 ==(↑x_1:Int) || !wrE (b8 e0 E (b8 e R x_1).toNat) || (b8 e0 E (b8 e R x_1).toNat).ob !=(b8 e0 E x_1).ob)=true→false=d6 E R M)∧((decide (b8 e R x_1 < e) || decide (b8 e R x_1 ≥ c) || b8 e R x_1 ==(↑x_1:Int) || !wrE (b8 e0 E (b8 e R
 x_1).toNat) || (b8 e0 E (b8 e R x_1).toNat).ob !=(b8 e0 E x_1).ob)=false→(wrE (b8 e0 E x_1)=true→∃(x_2:Nat),(x_2≤E.length∧p7 l x_2=true)∧(g.ann x).mu x_2 < (g.ann x).mu x_1∧(d∧True∧c=c∧IntKind.i64.wrap (a20 E x_1 + k)=a20 E x_2∧True∧E.length=E.length∧c=c∧c=c∧decide f=decide f∧decide f=decide f∧b=b∧b=b∧a=a∧a=a∧false=false∧True∧E.length=E.length∧c=c∧IntKind.i64.wrap ((↑x_1:Int) + k)=(↑x_2:Int)∧True)∧eqT∧eqA E.length (g9 E)∧eqA R.length (j6 R)∧eqA M.length (l4 M)∧d∧True)∧(wrE (b8 e0 E x_1)=false→∃(x_2:Nat),(x_2≤E.length∧p7 l x_2=true)∧(g.ann x).mu x_2 < (g.ann x).mu x_1∧(d∧True∧c=c∧a20 E x_1=a20 E x_2∧True∧E.length=E.length∧c=c∧c=c∧decide f=decide f∧decide f=decide f∧b=b∧b=b∧a=a∧a=a∧false=false∧True∧E.length=E.length∧c=c∧IntKind.i64.wrap ((↑x_1:Int) + k)=(↑x_2:Int)∧True)∧eqT∧eqA E.length (g9 E)∧eqA R.length (j6 R)∧eqA M.length (l4 M)∧d∧True)))))∧(decide ((↑x_1:Int) < c)=false→∃(x:PUnit),(∃(x:Nat),(x≤M.length∧a1i E M x=true)∧(e=(↑x:Int)∧True)∧(∀(x_2:Int),none=a27 (t7 M x) x_2)∧True)∧∀(x_2:Nat),x_2≤M.length∧a1i E M x_2=true→(decide ((↑x_2:Int) < h)=true→(e≤(↑x_2:Int)∧(↑x_2:Int) < h)∧x_2 < M.length∧∃(x_3:Nat),(∃(x:Nat),(x≤(x5 M (↑x_3:Int)).length∧x_3 < M.length∧a02 E (↑x_3:Int) (t7 M x_3) (List.take x (x5 M (↑x_3:Int)))=true)∧(e=(↑x:Int)∧True)∧(∀(x_4:Int),a27 (t7 M x_2) x_4=a27 (t7 M x_3 ++ List.take x (x5 M (↑x_3:Int))) x_4)∧True)∧∀(x_4:Nat),x_4≤(x5 M (↑x_3:Int)).length∧x_3 < M.length∧a02 E (↑x_3:Int) (t7 M x_3) (List.take x_4 (x5 M (↑x_3:Int)))=true→(decide ((↑x_4:Int) < (↑(b8
 [] M x_2).length:Int))=true→(e≤(↑x_4:Int)∧(↑x_4:Int) < (↑(b8 [] M x_2).length:Int))∧x_4 < (b8 [] M x_2).length∧((decide (b8 e (b8 [] M x_2) x_4 < e) || decide (b8 e (b8 [] M x_2) x_4 ≥ c) || a10 (a27 (t7 M x_3 ++ List.take x_4 (x5 M (↑x_3:Int))) (b8 e (b8 [] M x_2) x_4)) !=e)=false→e≤b8 e (b8 [] M x_2) x_4∧b8 e (b8 [] M x_2) x_4 < c)∧((decide (b8 e (b8 [] M x_2) x_4 < e) || decide (b8 e (b8 [] M x_2) x_4 ≥ c) || a10 (a27 (t7 M x_3 ++ List.take x_4 (x5 M (↑x_3:Int))) (b8 e (b8 [] M x_2) x_4)) !=e)=false→(b8 e (b8 [] M x_2) x_4).toNat < E.length)∧((decide (b8 e (b8 [] M x_2) x_4 < e) || decide (b8 e (b8 [] M x_2) x_4 ≥ c) || a10 (a27 (t7 M x_3 ++ List.take x_4 (x5 M (↑x_3:Int))) (b8 e (b8 [] M x_2) x_4)) !=e || !wrE (b8 e0 E (b8 e (b8 [] M x_2) x_4).toNat))=false→e≤b8 e (b8 [] M x_2) x_4∧b8 e (b8 [] M x_2) x_4 < c)∧((decide (b8 e (b8 [] M x_2) x_4 < e) || decide (b8 e (b8 [] M x_2) x_4 ≥ c) || a10 (a27 (t7 M x_3 ++ List.take x_4 (x5 M (↑x_3:Int))) (b8 e (b8 [] M x_2) x_4)) !=e || !wrE (b8 e0 E (b8 e (b8 [] M x_2) x_4).toNat))=false→(b8 e (b8 [] M x_2) x_4).toNat < E.length)∧((decide (b8 e (b8 [] M x_2) x_4 < e) || decide (b8 e (b8 [] M x_2) x_4 ≥ c) || a10 (a27 (t7 M x_3 ++ List.take x_4 (x5 M (↑x_3:Int))) (b8 e (b8 [] M x_2) x_4)) !=e || !wrE (b8 e0 E (b8 e (b8 [] M x_2) x_4).toNat) || (b8 e0 E (b8 e (b8 [] M x_2) x_4).toNat).ob !=(↑x_2:Int))=true→false=d6 E R M)∧((decide (b8 e (b8 [] M x_2) x_4 < e) || decide (b8 e (b8 [] M x_2) x_4 ≥ c) || a10 (a27 (t7 M x_3 ++ List.take
 x_4 (x5 M (↑x_3:Int))) (b8 e (b8 [] M x_2) x_4)) !=e || !wrE (b8 e0 E (b8 e (b8 [] M x_2) x_4).toNat) || (b8 e0 E (b8 e (b8 [] M x_2) x_4).toNat).ob !=(↑x_2:Int))=false→∃(x:Nat),(x≤(x5 M (↑x_3:Int)).length∧x_3 < M.length∧a02 E (↑x_3:Int) (t7 M x_3) (List.take x (x5 M (↑x_3:Int)))=true)∧(n.ann x_3).mu x < (n.ann x_3).mu x_4∧(d∧True∧c=c∧a20 E x_1=a20 E x_1∧True∧(↑x_2:Int)=(↑x_2:Int)∧(b8 [] M x_2).length=(b8 [] M x_2).length∧True∧E.length=E.length∧c=c∧c=c∧decide f=decide f∧decide f=decide f∧b=b∧b=b∧a=a∧a=a∧false=false∧True∧E.length=E.length∧c=c∧(↑x_1:Int)=(↑x_1:Int)∧false=false∧True∧True∧M.length=M.length∧h=h∧(↑x_2:Int)=(↑x_2:Int)∧true=true∧(↑x_2:Int)=(↑x_2:Int)∧x_2=x_2∧(b8 [] M x_2).length=(b8 [] M x_2).length∧(b8 [] M x_2).length=(b8 [] M x_2).length∧(↑(b8 [] M x_2).length:Int)=(↑(b8 [] M x_2).length:Int)∧IntKind.i64.wrap ((↑x_4:Int) + k)=(↑x:Int)∧True)∧eqT∧eqA E.length (g9 E)∧eqA R.length (j6 R)∧eqA M.length (l4 M)∧d∧(∀(x_5:Int),(bif x_5 ==b8 e (b8 [] M x_2) x_4 then some (bif true then k else e) else a27 (t7 M x_3 ++ List.take x_4 (x5 M (↑x_3:Int))) x_5)=a27 (t7 M x_3 ++ List.take x (x5 M (↑x_3:Int))) x_5)∧eqA (b8 [] M x_2).length [Col.int IntKind.i64 fun(i:Nat)=>b8 e (b8 [] M x_2) i]∧True))∧(decide ((↑x_4:Int) < (↑(b8 [] M x_2).length:Int))=false→∃(x_5:Nat),(x_5≤M.length∧a1i E M x_5=true)∧(m.ann x).mu x_5 < (m.ann x).mu x_2∧(d∧True∧c=c∧a20 E x_1=a20 E x_1∧True∧True∧E.length=E.length∧c=c∧c=c∧decide f=decide f∧decide f=decide
 f∧b=b∧b=b∧a=a∧a=a∧false=false∧True∧E.length=E.length∧c=c∧(↑x_1:Int)=(↑x_1:Int)∧false=false∧True∧True∧M.length=M.length∧h=h∧IntKind.i64.wrap ((↑x_2:Int) + k)=(↑x_5:Int)∧True)∧eqT∧eqA E.length (g9 E)∧eqA R.length (j6 R)∧eqA M.length (l4 M)∧d∧(∀(x:Int),a27 (t7 M x_3 ++ List.take x_4 (x5 M (↑x_3:Int))) x=a27 (t7 M x_5) x)∧True))∧(decide ((↑x_2:Int) < h)=false→((↑(b2h (a27 (t7 M x_2))):Int) ==a20 E x_1)=d6 E R M)))):=by kernel_rfl
theorem v33 (E:List Ev) (R:List Int) (M:List (List Int)) (h:SzG E M):q33D E R M:=by
 rw[d58]
 have hL:E.length≤1099511627776:=h.1
 have hrow:M.length≤8→∀ o,o < M.length→(b8 [] M o).length≤1099511627776:=fun h8 o ho=>h.2 h8 _ (by rw[s9 [] M _ ho]; exact z2r ho)
 simp only[eq_self,true_and,and_true,z0p,imp_self,m5,n5,o0,g8,i9,PLoop.of,s5,AV.len,j5,z0v,j8,l5,l6,m6,m7,m8,lV1,lV2,lV3]
 refine⟨fun _=>⟨hL,by omega⟩,fun h1=>?_,fun h1=>?_⟩
 ·cases hv:d6 E R M with
  | false=>rfl
  | true =>
   exfalso
   simp only[d6,z0d,z1p] at hv
   obtain⟨⟨⟨⟨⟨a1,a2⟩,a3⟩,a4⟩,a5⟩,a6⟩:=hv
   simp[a4,a2] at h1
   omega
 have hh:E.length≤64∧R.length=E.length∧M.length≤8∧a5y E M.length=true:=by
  simp at h1
  refine⟨?_,?_,?_,?_⟩ <;> first | omega | exact h1.2
 clear h1
 obtain⟨a1,a2,a3,a4⟩:=hh
 have hrow:=hrow a3
 have hv:d6 E R M=(p7 (a1j E R) E.length && p7 (a40 E M) M.length):=by simp[d6,a1,a2,a3,a4]
 have hob:=c9q a4
 refine⟨(),⟨0,⟨by omega,rfl⟩,rfl,rfl⟩,fun j hj=>⟨fun hlt=>?_,fun hlt=>?_⟩⟩
 ·have hj2:j < E.length:=by have:=z0e hlt; omega
  have hw1:=wrS (n:=E.length) hj2 hL
  have hc:=c9d E j
  have e:a1j E R j=bif !rdE (b8 e0 E j) then b8 0 R j == -2 else bif (decide (b8 0 R j < 0) || decide (b8 0 R j ≥ E.length)) then b8 0 R j == -1 else b8 0 R j != j && wrE (b8 e0 E (b8 0 R j).toNat) && (b8 e0 E (b8 0 R j).toNat).ob == (b8 e0 E j).ob:=rfl
  have bad:a1j E R j=false→false=d6 E R M:=fun hb=>by rw[hv,a1e (j:=j) hj2 hb]; rfl
  have next:a1j E R j=true→(wrE (b8 e0 E j)=true→∃ x_2,(x_2≤E.length∧p7 (a1j E R) x_2=true)∧E.length - x_2 < E.length - j∧IntKind.i64.wrap (a20 E j + 1)=a20 E x_2∧IntKind.i64.wrap (↑j + 1)=((x_2:Nat):Int))∧(wrE (b8 e0 E j)=false→∃ x_2,(x_2≤E.length∧p7 (a1j E R) x_2=true)∧E.length - x_2 < E.length - j∧a20 E j=a20 E x_2∧IntKind.i64.wrap (↑j + 1)=((x_2:Nat):Int)):=fun hs=>by
   have ha:p7 (a1j E R) (j + 1)=true:=by simp only[p7,hj.2,z1j]; exact hs
   have ew:wrE (evA E j)=wrE (b8 e0 E j):=rfl
   refine⟨fun hw=>⟨j + 1,⟨by omega,ha⟩,by omega,?_,hw1⟩,fun hw=>⟨j + 1,⟨by omega,ha⟩,by omega,?_,hw1⟩⟩
   ·simp only[a20]; rw[ew,hw,z0f]; exact a7h (by omega) (by omega)
   ·simp only[a20]; rw[ew,hw,z0m]
  have hin:∀ {q:Bool},((decide (b8 0 R j < 0) || decide (b8 0 R j ≥ ↑E.length) || q)=false)→0≤b8 0 R j∧b8 0 R j < ↑E.length:=fun {q} h=>by
   simp only[z1o,z1m] at h; omega
  have up:∀ {p q:Bool},(p || q)=false→p=false:=fun h=>(z1o.1 h).1
  refine⟨⟨by omega,by omega⟩,hj2,⟨by omega,by omega⟩,by omega,fun hr=>⟨fun h2=>bad ?_,fun h2=>next ?_⟩,fun hr=>⟨fun h2=>next ?_,fun h2=>⟨fun h3=>hin h3,fun h3=>a4q (hin h3),fun h3=>hin (up h3),fun h3=>a4q (hin (up h3)),fun h3=>bad ?_,fun h3=>next ?_⟩⟩⟩
  ·rw[e,hr,z0f]; simpa using h2
  ·rw[e,hr,z0f]; simpa using h2
  ·rw[e,hr,z0m]
   have h2:b8 0 R j = -1:=by simpa using h2
   rw[h2]; rfl
  ·rw[e,hr,z0m]
   have h2:b8 0 R j≠-1:=by simpa using h2
   cases hb:(decide (b8 0 R j < 0) || decide (b8 0 R j ≥ ↑E.length))
   ·rw[hb] at h3
    rw[z0m]
    simp only[Bool.false_or,z1r,beq_iff_eq,z0x,bne_iff_ne] at h3
    rcases h3 with(h3 | h3) | h3 <;> simp[h3]
   ·rw[z0f]; simpa using h2
  ·rw[e,hr,z0m]
   simp only[z1o] at h3
   obtain⟨⟨⟨⟨b1,b2⟩,b3⟩,b4⟩,b5⟩:=h3
   rw[b1,b2]
   simp at b3 b4 b5
   simp[b3,b4,b5]
 have hj2:j=E.length:=by have:=z0l hlt; omega
 have hsrc:p7 (a1j E R) E.length=true:=by have:=hj.2; rwa [hj2] at this
 rw[hv,hsrc,z1j]
 subst hj2
 refine⟨(),⟨0,⟨by omega,rfl⟩,rfl,fun _=>rfl⟩,fun o ho=>⟨fun hlo=>?_,fun hlo=>?_⟩⟩
 ·have ho2:o < M.length:=by have:=z0e hlo; omega
  have hro:x5 M o=b8 [] M o:=rfl
  refine⟨⟨by omega,by omega⟩,ho2,o,⟨0,⟨by omega,ho2,rfl⟩,rfl,fun x=>by simp⟩,fun q hq=>⟨fun hlq=>?_,fun hlq=>?_⟩⟩
  ·have hq2:q < (b8 [] M o).length:=by have:=z0e hlq; omega
   simp only[b9w]
   have e:a02 E o (t7 M o) ((x5 M o).take (q + 1))=(decide (0≤b8 0 (b8 [] M o) q) && decide (b8 0 (b8 [] M o) q < E.length) && !(t7 M o ++ (x5 M o).take q).contains (b8 0 (b8 [] M o) q) && wrE (b8 e0 E (b8 0 (b8 [] M o) q).toNat) && (b8 e0 E (b8 0 (b8 [] M o) q).toNat).ob == o):=by
    have h3:(x5 M o).take (q + 1)=(x5 M o).take q ++ [b8 0 (x5 M o) q]:=b5z (by rw[hro]; exact hq2)
    rw[h3,b7d,hq.2.2,z1j]; rfl
   generalize hx:b8 0 (b8 [] M o) q=x at *
   have hin:∀ {p:Bool},((decide (x < 0) || decide (x ≥ ↑E.length) || p)=false)→0≤x∧x < ↑E.length:=fun {p} h=>by
    simp only[z1o,z1m] at h; omega
   have up:∀ {p q:Bool},(p || q)=false→p=false:=fun h=>(z1o.1 h).1
   refine⟨⟨by omega,by omega⟩,hq2,fun h3=>hin h3,fun h3=>a4q (hin h3),fun h3=>hin (up h3),fun h3=>a4q (hin (up h3)),fun h3=>?_,fun h3=>⟨q + 1,⟨?_,ho2,?_⟩,?_,wrS (n:=(b8 [] M o).length) hq2 (hrow o ho2),fun a=>?_⟩⟩
   ·refine(d0a (q:=q + 1) ho2 hob ?_).symm
    rw[e]
    by_cases b1:x < 0
    ·have:decide (0≤x)=false:=by simp; omega
     rw[this]; simp
    by_cases b2:x ≥ E.length
    ·have:decide (x < (E.length:Int))=false:=by simp; omega
     rw[this]; simp
    have c1:decide (x < 0)=false:=by simp; omega
    have c2:decide (x ≥ (E.length:Int))=false:=by simp; omega
    rw[c1,c2] at h3
    simp only[Bool.false_or,z1r,z0x,bne_iff_ne] at h3
    rcases h3 with(h3 | h3) | h3
    ·rw[h3]; simp
    ·rw[h3]; simp
    ·have:((b8 e0 E x.toNat).ob == (o:Int))=false:=by simpa using h3
     rw[this]; simp
   ·rw[hro]; omega
   ·rw[e]
    simp only[z1o,z1m] at h3
    obtain⟨⟨⟨⟨b1,b2⟩,b3⟩,b4⟩,b5⟩:=h3
    have c1:decide (0≤x)=true:=by simp; omega
    have c2:decide (x < (E.length:Int))=true:=by simp; omega
    rw[c1,c2,b3]
    simp at b4 b5
    simp[b4,b5]
   ·rw[hro]; omega
   ·have h3:(x5 M o).take (q + 1)=(x5 M o).take q ++ [b8 0 (x5 M o) q]:=b5z (by rw[hro]; exact hq2)
    rw[h3,hro,hx,← z1y]
    exact b5u _ x a
  ·have hq2:q=(b8 [] M o).length:=by have:=z0l hlq; have:=hq.1; rw[hro] at this; omega
   have ht:(x5 M o).take q=x5 M o:=by rw[hq2,← hro,z3n]
   have hg:=hq.2.2
   rw[ht] at hg ⊢
   refine⟨o + 1,⟨by omega,?_⟩,by omega,wrS (n:=M.length) ho2 (by omega),fun x=>rfl⟩
   simp only[a1i,ho.2,z1j]; exact hg
 ·have ho2:o=M.length:=by have:=z0l hlo; omega
  subst ho2
  have hg:=ho.2
  rw[c51 (a8f (E:=E) (a67.1 hg)).1,← c2p hob,hg,z1j]
theorem n33 (nm:List (Option AV)):CallOk Tryz.prog GL 33 (n8 EL gbT nm [PG] c4z):=a4r Tryz.func33 fo33 fun av pre rv h=>by
 unfold c4z at h; split at h <;> cases h
 exact⟨⟨rfl,fun t a e=>by cases e <;> exact z0k _ _⟩,fun hp=>⟨_,v33 _ _ _ (hp _ (.head _)),rfl,(m9 (n79 _) (m9 (a0y (n80 _)) (m9 (a0y (n81 _)) v4))),v5⟩⟩
def a49 (nm:List (Option AV)):Nat × (List MBlk→List SV→Option AR):=(33,n8 EL gbT nm [PG] c4z)
def a5j (f:Int→Option Int) (l:List Int):Nat→Int→Option Int
 | 0=>f
 | q + 1=>fun a=>bif a == b8 0 l q then some (q:Int) else a5j f l q a
def b1k (M:List (List Int)):Nat→Int→Option Int
 | 0=>fun _=>none
 | o + 1=>a5j (b1k M o) (x5 M o) (x5 M o).length
def plM (M:List (List Int)):Int→Option Int:=b1k M M.length
def lP1 (M:List (List Int)) (t r:Nat):LAnn:=s5 M.length t (fun _=>True) (fun o=>[(r,.mapi .i64 (some .i64) (b1k M o))]) []
def lP2 (M:List (List Int)) (t r:Nat):PLoop:=⟨Nat,fun o=>{ X:=Nat,inv:=fun q=>q≤(x5 M o).length∧o < M.length,slots:=fun q=>[(t,.i .i64 (q:Int))],mem:=fun q=>[(r,.mapi .i64 (some .i64) (a5j (b1k M o) (x5 M o) q))],mu:=fun q=>(x5 M o).length - q,kill:=[] }⟩
def sPl:SpG:=fun
 | [.ag [.es E,.is R,.rs M]]=>some ([SzG E M∧M.length≤8],.m1 .i64 (some .i64) (plM M))
 | _=>none
def kPl (nm:List (Option AV)):Nat × (List MBlk→List SV→Option AR):=(104,n8 EL none nm [PG] sPl)
theorem d6j:o8 Tryz.prog 104:=⟨Tryz.f104,Tryz.func104,by kernel_rfl,by kernel_rfl⟩
def d2i (E:List Ev) (R:List Int) (M:List (List Int)):Prop:=n9 (({ loops:=[(0,.of (lP1 M 12 4)),(2,lP2 M 18 4)] }:Kit)).tab Tryz.f104 [grV E R M] (grM E R M) ((QV.m1 .i64 (some .i64) (plM M)).post EL)
theorem d13 (E:List Ev) (R:List Int) (M:List (List Int)):d2i E R M=(
 let a:=E.length=E.length∧R.length=R.length∧M.length=M.length
 let b:=(↑M.length:Int)
 let c:=PLoop.of (lP1 M (12:Nat) (4:Nat))
 let d:=(0:Int)
 ∃(x:PUnit),(∃(x:Nat),(x≤M.length∧True)∧(d=(↑x:Int)∧True)∧(∀(x_1:Int),none=b1k M x x_1)∧True)∧∀(x_1:Nat),x_1≤M.length∧True→(decide ((↑x_1:Int) < b)=true→(d≤(↑x_1:Int)∧(↑x_1:Int) < b)∧x_1 < M.length∧∃(x_2:Nat),(∃(x:Nat),(x≤(x5 M (↑x_2:Int)).length∧x_2 < M.length)∧(d=(↑x:Int)∧True)∧(∀(x_3:Int),b1k M x_1 x_3=a5j (b1k M x_2) (x5 M (↑x_2:Int)) x x_3)∧True)∧∀(x_3:Nat),x_3≤(x5 M (↑x_2:Int)).length∧x_2 < M.length→(decide ((↑x_3:Int) < (↑(b8 [] M x_1).length:Int))=true→(d≤(↑x_3:Int)∧(↑x_3:Int) < (↑(b8 [] M x_1).length:Int))∧x_3 < (b8 [] M x_1).length∧∃(x:Nat),(x≤(x5 M (↑x_2:Int)).length∧x_2 < M.length)∧((lP2 M (18:Nat) (4:Nat)).ann x_2).mu x < ((lP2 M (18:Nat) (4:Nat)).ann x_2).mu x_3∧(a∧True∧True∧True∧(b8 [] M x_1).length=(b8 [] M x_1).length∧True∧True∧M.length=M.length∧b=b∧(↑x_1:Int)=(↑x_1:Int)∧true=true∧x_1=x_1∧(b8 [] M x_1).length=(b8 [] M x_1).length∧(b8 [] M x_1).length=(b8 [] M x_1).length∧(↑(b8 [] M x_1).length:Int)=(↑(b8 [] M x_1).length:Int)∧IntKind.i64.wrap ((↑x_3:Int) + (1:Int))=(↑x:Int)∧True)∧eqA E.length (g9 E)∧eqA R.length (j6 R)∧eqA M.length (l4 M)∧a∧(∀(x_4:Int),(bif x_4 ==b8 d (b8 [] M x_1) x_3 then some (↑x_3:Int) else a5j (b1k M x_2) (x5 M (↑x_2:Int)) x_3 x_4)=a5j (b1k M x_2) (x5 M (↑x_2:Int)) x x_4)∧eqA (b8 [] M x_1).length [Col.int IntKind.i64 fun(i:Nat)=>b8 d (b8 [] M x_1) i]∧True)∧(decide ((↑x_3:Int) < (↑(b8 [] M x_1).length:Int))=false→∃(x_4:Nat),(x_4≤M.length∧True)∧(c.ann x).mu x_4 < (c.ann x).mu
 x_1∧(a∧True∧True∧True∧True∧True∧M.length=M.length∧b=b∧IntKind.i64.wrap ((↑x_1:Int) + (1:Int))=(↑x_4:Int)∧True)∧eqA E.length (g9 E)∧eqA R.length (j6 R)∧eqA M.length (l4 M)∧a∧(∀(x:Int),a5j (b1k M x_2) (x5 M (↑x_2:Int)) x_3 x=b1k M x_4 x)∧True))∧(decide ((↑x_1:Int) < b)=false→∀(j:Int),b1k M x_1 j=plM M j)):=by kernel_rfl
theorem v104 (E:List Ev) (R:List Int) (M:List (List Int)) (h:SzG E M∧M.length≤8):d2i E R M:=by
 rw[d13]
 have hM:M.length≤8:=h.2
 have hrow:∀ o,o < M.length→(b8 [] M o).length≤1099511627776:=fun o ho=>h.1.2 h.2 _ (by rw[s9 [] M _ ho]; exact z2r ho)
 simp only[eq_self,true_and,and_true,z0p,imp_self,m5,n5,o0,g8,i9,PLoop.of,s5,AV.len,j5,z0v,j8,l5,l6,m6,m7,m8,lP1,lP2]
 refine⟨(),⟨0,by omega,rfl,fun _=>rfl⟩,fun o ho=>⟨fun hlo=>?_,fun hlo=>?_⟩⟩
 ·have ho2:o < M.length:=by have:=z0e hlo; omega
  have hro:x5 M o=b8 [] M o:=rfl
  refine⟨⟨by omega,by omega⟩,ho2,o,⟨0,⟨by omega,ho2⟩,rfl,fun _=>rfl⟩,fun q hq=>⟨fun hlq=>?_,fun hlq=>?_⟩⟩
  ·have hq2:q < (b8 [] M o).length:=by have:=z0e hlq; omega
   exact⟨⟨by omega,by omega⟩,hq2,q + 1,⟨by rw[hro]; omega,ho2⟩,by rw[hro]; omega,wrS (n:=(b8 [] M o).length) hq2 (hrow o ho2),fun _=>rfl⟩
  ·have hq2:q=(b8 [] M o).length:=by have:=z0l hlq; have:=hq.1; rw[hro] at this; omega
   exact⟨o + 1,by omega,by omega,wrS (n:=M.length) ho2 (by omega),fun x=>by rw[hq2,← hro]; rfl⟩
 ·have ho2:o=M.length:=by have:=z0l hlo; omega
  subst ho2
  exact fun _=>rfl
theorem n104 (nm:List (Option AV)):CallOk Tryz.prog [] 104 (n8 EL none nm [PG] sPl):=y5 Tryz.func104 d6j fun av pre rv h=>by
 unfold sPl at h; split at h <;> cases h
 exact⟨⟨rfl,fun t a e=>by cases e <;> exact z0k _ _⟩,fun hp=>⟨_,v104 _ _ _ (hp _ (.head _)),rfl,v4,v5⟩⟩
def i7:GF:=fun E _ M i k=>wrE (evA E i) && wrE (evA E k) && (evA E i).ob == (evA E k).ob && decide (a10 (plM M i) < a10 (plM M k))
def i6:GF:=fun E R M i k=>!(i == k) && rdE (evA E i) && wrE (evA E k) && (evA E i).ob == (evA E k).ob && (decide (inA R i < 0) || decide (a10 (plM M (inA R i)) < a10 (plM M k)))
end Go.Proofs.YtaeeaniofljmnaaGreatDoor
