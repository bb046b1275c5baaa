/-
  A part of the proof (K27a).
-/
import Derived.Test.YtaeeaniofljmnaaGreatDoorKV3
namespace Go.Proofs.YtaeeaniofljmnaaGreatDoor
set_option linter.unusedSimpArgs false
set_option linter.unusedVariables false
open Go Go.Proofs.YtaeeaniofljmnaaGreatDoor.Sx
set_option maxRecDepth 100000
theorem fo33:s5 Tryz.prog 33:=⟨Tryz.f33,Tryz.func33,by kernel_rfl,by kernel_rfl⟩
def q33D (E:List Ev) (R:List Int) (M:List (List Int)):Prop:=s4 (({ g:=true,calls:=[kVe [none,some (.es E),some (.is R),some (.rs M)],kE1 80 rdE,kE1 81 wrE],loops:=[(0,.of (lV1 E R 43 4)),(3,.of (lV2 E M 104 5)),(5,lV3 E M 111 5)] }:Kit)).tab Tryz.f33 [.agg [.sl 1 E.length,.sl 2 R.length,.sl 3 M.length]] (tbl :: grM E R M) (m4 (.b (b8 E R M)))
theorem d8o (E:List Ev) (R:List Int) (M:List (List Int)):q33D E R M=(
 let a:=decide ((↑E.length:Int) > (64:Int)) || decide ((↑M.length:Int) > (8:Int)) || (↑R.length:Int) !=(↑E.length:Int)
 let b:=decide ((↑E.length:Int) > (64:Int)) || decide ((↑M.length:Int) > (8:Int))
 let c:=(↑E.length:Int)
 let d:=E.length=E.length∧R.length=R.length∧M.length=M.length
 let e:=(0:Int)
 let f:=c > (64:Int)
 let g:=PLoop.of (lV1 E R (43:Nat) (4:Nat))
 let h:=(↑M.length:Int)
 let j:=decide f || decide (h > (8:Int)) || (↑R.length:Int) !=c || !a7m E M.length
 let k:=(1:Int)
 let l:=a20 E R
 let m:=PLoop.of (lV2 E M (104:Nat) (5:Nat))
 let n:=lV3 E M (111:Nat) (5:Nat)
 (a=false→some tbl=some tbl)∧(a=false→E.length=E.length)∧(a=false→nE E)∧(a=false→E.length≤(1099511627776:Nat)∧e≤h)∧(j=true→false=b8 E R M)∧(j=false→∃(x:PUnit),(∃(x:Nat),(x≤E.length∧j8 l x=true)∧(e=(↑x:Int)∧e=a2h E x∧True)∧True)∧∀(x_1:Nat),x_1≤E.length∧j8 l x_1=true→(decide ((↑x_1:Int) < c)=true→(e≤(↑x_1:Int)∧(↑x_1:Int) < c)∧x_1 < E.length∧(e≤(↑x_1:Int)∧(↑x_1:Int) < (↑R.length:Int))∧x_1 < R.length∧((!rdE (b7 e0 E x_1))=true→((b7 e R x_1 !=(-2:Int))=true→false=b8 E R M)∧((b7 e R x_1 !=(-2:Int))=false→(wrE (b7 e0 E x_1)=true→∃(x_2:Nat),(x_2≤E.length∧j8 l x_2=true)∧(g.ann x).mu x_2 < (g.ann x).mu x_1∧(d∧True∧c=c∧IntKind.i64.wrap (a2h E x_1 + k)=a2h E x_2∧True∧E.length=E.length∧c=c∧c=c∧decide f=decide f∧decide f=decide f∧b=b∧b=b∧a=a∧a=a∧false=false∧True∧E.length=E.length∧c=c∧IntKind.i64.wrap ((↑x_1:Int) + k)=(↑x_2:Int)∧True)∧eqT∧eqA E.length (i6 E)∧eqA R.length (e8 R)∧eqA M.length (i4 M)∧d∧True)∧(wrE (b7 e0 E x_1)=false→∃(x_2:Nat),(x_2≤E.length∧j8 l x_2=true)∧(g.ann x).mu x_2 < (g.ann x).mu x_1∧(d∧True∧c=c∧a2h E x_1=a2h E x_2∧True∧E.length=E.length∧c=c∧c=c∧decide f=decide f∧decide f=decide f∧b=b∧b=b∧a=a∧a=a∧false=false∧True∧E.length=E.length∧c=c∧IntKind.i64.wrap ((↑x_1:Int) + k)=(↑x_2:Int)∧True)∧eqT∧eqA E.length (i6 E)∧eqA R.length (e8 R)∧eqA M.length (i4 M)∧d∧True)))∧((!rdE (b7 e0 E x_1))=false→((b7 e R x_1 ==(-1:Int))=true→(wrE (b7 e0 E x_1)=true→∃(x_2:Nat),(x_2≤E.length∧j8 l x_2=true)∧(g.ann x).mu x_2 < (g.ann x).mu x_1∧(d∧True∧c=c∧IntKind.i64.wrap (a2h E x_1 + k)=a2h E
 x_2∧True∧E.length=E.length∧c=c∧c=c∧decide f=decide f∧decide f=decide f∧b=b∧b=b∧a=a∧a=a∧false=false∧True∧E.length=E.length∧c=c∧IntKind.i64.wrap ((↑x_1:Int) + k)=(↑x_2:Int)∧True)∧eqT∧eqA E.length (i6 E)∧eqA R.length (e8 R)∧eqA M.length (i4 M)∧d∧True)∧(wrE (b7 e0 E x_1)=false→∃(x_2:Nat),(x_2≤E.length∧j8 l x_2=true)∧(g.ann x).mu x_2 < (g.ann x).mu x_1∧(d∧True∧c=c∧a2h E x_1=a2h E x_2∧True∧E.length=E.length∧c=c∧c=c∧decide f=decide f∧decide f=decide f∧b=b∧b=b∧a=a∧a=a∧false=false∧True∧E.length=E.length∧c=c∧IntKind.i64.wrap ((↑x_1:Int) + k)=(↑x_2:Int)∧True)∧eqT∧eqA E.length (i6 E)∧eqA R.length (e8 R)∧eqA M.length (i4 M)∧d∧True))∧((b7 e R x_1 ==(-1:Int))=false→((decide (b7 e R x_1 < e) || decide (b7 e R x_1 ≥ c) || b7 e R x_1 ==(↑x_1:Int))=false→e≤b7 e R x_1∧b7 e R x_1 < c)∧((decide (b7 e R x_1 < e) || decide (b7 e R x_1 ≥ c) || b7 e R x_1 ==(↑x_1:Int))=false→(b7 e R x_1).toNat < E.length)∧((decide (b7 e R x_1 < e) || decide (b7 e R x_1 ≥ c) || b7 e R x_1 ==(↑x_1:Int) || !wrE (b7 e0 E (b7 e R x_1).toNat))=false→e≤b7 e R x_1∧b7 e R x_1 < c)∧((decide (b7 e R x_1 < e) || decide (b7 e R x_1 ≥ c) || b7 e R x_1 ==(↑x_1:Int) || !wrE (b7 e0 E (b7 e R x_1).toNat))=false→(b7 e R x_1).toNat < E.length)∧((decide (b7 e R x_1 < e) || decide (b7 e R x_1 ≥ c) || b7 e R x_1 ==(↑x_1:Int) || !wrE (b7 e0 E (b7 e R x_1).toNat) || (b7 e0 E (b7 e R x_1).toNat).ob !=(b7 e0 E x_1).ob)=true→false=b8 E R M)∧((decide (b7 e R x_1 < e) || decide (b7 e R x_1 ≥ c) || b7 e R x_1 ==(↑x_1:Int) || !wrE (b7 e0 E (b7 e R
 x_1).toNat) || (b7 e0 E (b7 e R x_1).toNat).ob !=(b7 e0 E x_1).ob)=false→(wrE (b7 e0 E x_1)=true→∃(x_2:Nat),(x_2≤E.length∧j8 l x_2=true)∧(g.ann x).mu x_2 < (g.ann x).mu x_1∧(d∧True∧c=c∧IntKind.i64.wrap (a2h E x_1 + k)=a2h E x_2∧True∧E.length=E.length∧c=c∧c=c∧decide f=decide f∧decide f=decide f∧b=b∧b=b∧a=a∧a=a∧false=false∧True∧E.length=E.length∧c=c∧IntKind.i64.wrap ((↑x_1:Int) + k)=(↑x_2:Int)∧True)∧eqT∧eqA E.length (i6 E)∧eqA R.length (e8 R)∧eqA M.length (i4 M)∧d∧True)∧(wrE (b7 e0 E x_1)=false→∃(x_2:Nat),(x_2≤E.length∧j8 l x_2=true)∧(g.ann x).mu x_2 < (g.ann x).mu x_1∧(d∧True∧c=c∧a2h E x_1=a2h E x_2∧True∧E.length=E.length∧c=c∧c=c∧decide f=decide f∧decide f=decide f∧b=b∧b=b∧a=a∧a=a∧false=false∧True∧E.length=E.length∧c=c∧IntKind.i64.wrap ((↑x_1:Int) + k)=(↑x_2:Int)∧True)∧eqT∧eqA E.length (i6 E)∧eqA R.length (e8 R)∧eqA M.length (i4 M)∧d∧True)))))∧(decide ((↑x_1:Int) < c)=false→∃(x:PUnit),(∃(x:Nat),(x≤M.length∧a1z E M x=true)∧(e=(↑x:Int)∧True)∧(∀(x_2:Int),none=a31 (w7 M x) x_2)∧True)∧∀(x_2:Nat),x_2≤M.length∧a1z E M x_2=true→(decide ((↑x_2:Int) < h)=true→(e≤(↑x_2:Int)∧(↑x_2:Int) < h)∧x_2 < M.length∧∃(x_3:Nat),(∃(x:Nat),(x≤(x8 M (↑x_3:Int)).length∧x_3 < M.length∧a0r E (↑x_3:Int) (w7 M x_3) (List.take x (x8 M (↑x_3:Int)))=true)∧(e=(↑x:Int)∧True)∧(∀(x_4:Int),a31 (w7 M x_2) x_4=a31 (w7 M x_3 ++ List.take x (x8 M (↑x_3:Int))) x_4)∧True)∧∀(x_4:Nat),x_4≤(x8 M (↑x_3:Int)).length∧x_3 < M.length∧a0r E (↑x_3:Int) (w7 M x_3) (List.take x_4 (x8 M (↑x_3:Int)))=true→(decide ((↑x_4:Int) < (↑(b7
 [] M x_2).length:Int))=true→(e≤(↑x_4:Int)∧(↑x_4:Int) < (↑(b7 [] M x_2).length:Int))∧x_4 < (b7 [] M x_2).length∧((decide (b7 e (b7 [] M x_2) x_4 < e) || decide (b7 e (b7 [] M x_2) x_4 ≥ c) || z8 (a31 (w7 M x_3 ++ List.take x_4 (x8 M (↑x_3:Int))) (b7 e (b7 [] M x_2) x_4)) !=e)=false→e≤b7 e (b7 [] M x_2) x_4∧b7 e (b7 [] M x_2) x_4 < c)∧((decide (b7 e (b7 [] M x_2) x_4 < e) || decide (b7 e (b7 [] M x_2) x_4 ≥ c) || z8 (a31 (w7 M x_3 ++ List.take x_4 (x8 M (↑x_3:Int))) (b7 e (b7 [] M x_2) x_4)) !=e)=false→(b7 e (b7 [] M x_2) x_4).toNat < E.length)∧((decide (b7 e (b7 [] M x_2) x_4 < e) || decide (b7 e (b7 [] M x_2) x_4 ≥ c) || z8 (a31 (w7 M x_3 ++ List.take x_4 (x8 M (↑x_3:Int))) (b7 e (b7 [] M x_2) x_4)) !=e || !wrE (b7 e0 E (b7 e (b7 [] M x_2) x_4).toNat))=false→e≤b7 e (b7 [] M x_2) x_4∧b7 e (b7 [] M x_2) x_4 < c)∧((decide (b7 e (b7 [] M x_2) x_4 < e) || decide (b7 e (b7 [] M x_2) x_4 ≥ c) || z8 (a31 (w7 M x_3 ++ List.take x_4 (x8 M (↑x_3:Int))) (b7 e (b7 [] M x_2) x_4)) !=e || !wrE (b7 e0 E (b7 e (b7 [] M x_2) x_4).toNat))=false→(b7 e (b7 [] M x_2) x_4).toNat < E.length)∧((decide (b7 e (b7 [] M x_2) x_4 < e) || decide (b7 e (b7 [] M x_2) x_4 ≥ c) || z8 (a31 (w7 M x_3 ++ List.take x_4 (x8 M (↑x_3:Int))) (b7 e (b7 [] M x_2) x_4)) !=e || !wrE (b7 e0 E (b7 e (b7 [] M x_2) x_4).toNat) || (b7 e0 E (b7 e (b7 [] M x_2) x_4).toNat).ob !=(↑x_2:Int))=true→false=b8 E R M)∧((decide (b7 e (b7 [] M x_2) x_4 < e) || decide (b7 e (b7 [] M x_2) x_4 ≥ c) || z8 (a31 (w7 M x_3 ++ List.take x_4 (x8
 M (↑x_3:Int))) (b7 e (b7 [] M x_2) x_4)) !=e || !wrE (b7 e0 E (b7 e (b7 [] M x_2) x_4).toNat) || (b7 e0 E (b7 e (b7 [] M x_2) x_4).toNat).ob !=(↑x_2:Int))=false→∃(x:Nat),(x≤(x8 M (↑x_3:Int)).length∧x_3 < M.length∧a0r E (↑x_3:Int) (w7 M x_3) (List.take x (x8 M (↑x_3:Int)))=true)∧(n.ann x_3).mu x < (n.ann x_3).mu x_4∧(d∧True∧c=c∧a2h E x_1=a2h E x_1∧True∧(↑x_2:Int)=(↑x_2:Int)∧(b7 [] M x_2).length=(b7 [] M x_2).length∧True∧E.length=E.length∧c=c∧c=c∧decide f=decide f∧decide f=decide f∧b=b∧b=b∧a=a∧a=a∧false=false∧True∧E.length=E.length∧c=c∧(↑x_1:Int)=(↑x_1:Int)∧false=false∧True∧True∧M.length=M.length∧h=h∧(↑x_2:Int)=(↑x_2:Int)∧true=true∧(↑x_2:Int)=(↑x_2:Int)∧x_2=x_2∧(b7 [] M x_2).length=(b7 [] M x_2).length∧(b7 [] M x_2).length=(b7 [] M x_2).length∧(↑(b7 [] M x_2).length:Int)=(↑(b7 [] M x_2).length:Int)∧IntKind.i64.wrap ((↑x_4:Int) + k)=(↑x:Int)∧True)∧eqT∧eqA E.length (i6 E)∧eqA R.length (e8 R)∧eqA M.length (i4 M)∧d∧(∀(x_5:Int),(bif x_5 ==b7 e (b7 [] M x_2) x_4 then some (bif true then k else e) else a31 (w7 M x_3 ++ List.take x_4 (x8 M (↑x_3:Int))) x_5)=a31 (w7 M x_3 ++ List.take x (x8 M (↑x_3:Int))) x_5)∧eqA (b7 [] M x_2).length [Col.int IntKind.i64 fun(i:Nat)=>b7 e (b7 [] M x_2) i]∧True))∧(decide ((↑x_4:Int) < (↑(b7 [] M x_2).length:Int))=false→∃(x_5:Nat),(x_5≤M.length∧a1z E M x_5=true)∧(m.ann x).mu x_5 < (m.ann x).mu x_2∧(d∧True∧c=c∧a2h E x_1=a2h E x_1∧True∧True∧E.length=E.length∧c=c∧c=c∧decide f=decide f∧decide f=decide
 f∧b=b∧b=b∧a=a∧a=a∧false=false∧True∧E.length=E.length∧c=c∧(↑x_1:Int)=(↑x_1:Int)∧false=false∧True∧True∧M.length=M.length∧h=h∧IntKind.i64.wrap ((↑x_2:Int) + k)=(↑x_5:Int)∧True)∧eqT∧eqA E.length (i6 E)∧eqA R.length (e8 R)∧eqA M.length (i4 M)∧d∧(∀(x:Int),a31 (w7 M x_3 ++ List.take x_4 (x8 M (↑x_3:Int))) x=a31 (w7 M x_5) x)∧True))∧(decide ((↑x_2:Int) < h)=false→((↑(b3w (a31 (w7 M x_2))):Int) ==a2h E x_1)=b8 E R M)))):=by kernel_rfl
theorem v33 (E:List Ev) (R:List Int) (M:List (List Int)) (h:SzG E M):q33D E R M:=by
 rw[d8o]
 have hL:E.length≤1099511627776:=h.1
 have hrow:M.length≤8→∀ o,o < M.length→(b7 [] M o).length≤1099511627776:=fun h8 o ho=>h.2 h8 _ (by rw[m7 [] M _ ho]; exact z1v ho)
 simp only[eq_self,true_and,and_true,z0o,imp_self,o6,o8,p7,i7,i9,PLoop.of,s8,AV.len,j4,z0u,l4,l5,l6,m8,m9,n5,lV1,lV2,lV3]
 refine⟨fun _=>⟨hL,by omega⟩,fun h1=>?_,fun h1=>?_⟩
 ·cases hv:b8 E R M with
  | false=>rfl
  | true =>
   exfalso
   simp only[b8,z0d,z1m] at hv
   obtain⟨⟨⟨⟨⟨a1,a2⟩,a3⟩,a4⟩,a5⟩,a6⟩:=hv
   simp[a4,a2] at h1
   omega
 have hh:E.length≤64∧R.length=E.length∧M.length≤8∧a7m E M.length=true:=by
  simp at h1
  refine⟨?_,?_,?_,?_⟩ <;> first | omega | exact h1.2
 clear h1
 obtain⟨a1,a2,a3,a4⟩:=hh
 have hrow:=hrow a3
 have hv:b8 E R M=(j8 (a20 E R) E.length && j8 (a4y E M) M.length):=by simp[b8,a1,a2,a3,a4]
 have hob:=c4i a4
 refine⟨(),⟨0,⟨by omega,rfl⟩,rfl,rfl⟩,fun j hj=>⟨fun hlt=>?_,fun hlt=>?_⟩⟩
 ·have hj2:j < E.length:=by have:=z0e hlt; omega
  have hw1:=wrS (n:=E.length) hj2 hL
  have hc:=d1s E j
  have e:a20 E R j=bif !rdE (b7 e0 E j) then b7 0 R j == -2 else bif (decide (b7 0 R j < 0) || decide (b7 0 R j ≥ E.length)) then b7 0 R j == -1 else b7 0 R j != j && wrE (b7 e0 E (b7 0 R j).toNat) && (b7 e0 E (b7 0 R j).toNat).ob == (b7 e0 E j).ob:=rfl
  have bad:a20 E R j=false→false=b8 E R M:=fun hb=>by rw[hv,a06 (j:=j) hj2 hb]; rfl
  have next:a20 E R j=true→(wrE (b7 e0 E j)=true→∃ x_2,(x_2≤E.length∧j8 (a20 E R) x_2=true)∧E.length - x_2 < E.length - j∧IntKind.i64.wrap (a2h E j + 1)=a2h E x_2∧IntKind.i64.wrap (↑j + 1)=((x_2:Nat):Int))∧(wrE (b7 e0 E j)=false→∃ x_2,(x_2≤E.length∧j8 (a20 E R) x_2=true)∧E.length - x_2 < E.length - j∧a2h E j=a2h E x_2∧IntKind.i64.wrap (↑j + 1)=((x_2:Nat):Int)):=fun hs=>by
   have ha:j8 (a20 E R) (j + 1)=true:=by simp only[j8,hj.2,z0y]; exact hs
   have ew:wrE (evA E j)=wrE (b7 e0 E j):=rfl
   refine⟨fun hw=>⟨j + 1,⟨by omega,ha⟩,by omega,?_,hw1⟩,fun hw=>⟨j + 1,⟨by omega,ha⟩,by omega,?_,hw1⟩⟩
   ·simp only[a2h]; rw[ew,hw,z0f]; exact a4x (by omega) (by omega)
   ·simp only[a2h]; rw[ew,hw,z0l]
  have hin:∀ {q:Bool},((decide (b7 0 R j < 0) || decide (b7 0 R j ≥ ↑E.length) || q)=false)→0≤b7 0 R j∧b7 0 R j < ↑E.length:=fun {q} h=>by
   simp only[z1j,z1k] at h; omega
  have up:∀ {p q:Bool},(p || q)=false→p=false:=fun h=>(z1j.1 h).1
  refine⟨⟨by omega,by omega⟩,hj2,⟨by omega,by omega⟩,by omega,fun hr=>⟨fun h2=>bad ?_,fun h2=>next ?_⟩,fun hr=>⟨fun h2=>next ?_,fun h2=>⟨fun h3=>hin h3,fun h3=>a10 (hin h3),fun h3=>hin (up h3),fun h3=>a10 (hin (up h3)),fun h3=>bad ?_,fun h3=>next ?_⟩⟩⟩
  ·rw[e,hr,z0f]; simpa using h2
  ·rw[e,hr,z0f]; simpa using h2
  ·rw[e,hr,z0l]
   have h2:b7 0 R j = -1:=by simpa using h2
   rw[h2]; rfl
  ·rw[e,hr,z0l]
   have h2:b7 0 R j≠-1:=by simpa using h2
   cases hb:(decide (b7 0 R j < 0) || decide (b7 0 R j ≥ ↑E.length))
   ·rw[hb] at h3
    rw[z0l]
    simp only[Bool.false_or,z1u,beq_iff_eq,z0v,bne_iff_ne] at h3
    rcases h3 with(h3 | h3) | h3 <;> simp[h3]
   ·rw[z0f]; simpa using h2
  ·rw[e,hr,z0l]
   simp only[z1j] at h3
   obtain⟨⟨⟨⟨b1,b2⟩,b3⟩,b4⟩,b5⟩:=h3
   rw[b1,b2]
   simp at b3 b4 b5
   simp[b3,b4,b5]
 have hj2:j=E.length:=by have:=z0i hlt; omega
 have hsrc:j8 (a20 E R) E.length=true:=by have:=hj.2; rwa [hj2] at this
 rw[hv,hsrc,z0y]
 subst hj2
 refine⟨(),⟨0,⟨by omega,rfl⟩,rfl,fun _=>rfl⟩,fun o ho=>⟨fun hlo=>?_,fun hlo=>?_⟩⟩
 ·have ho2:o < M.length:=by have:=z0e hlo; omega
  have hro:x8 M o=b7 [] M o:=rfl
  refine⟨⟨by omega,by omega⟩,ho2,o,⟨0,⟨by omega,ho2,rfl⟩,rfl,fun x=>by simp⟩,fun q hq=>⟨fun hlq=>?_,fun hlq=>?_⟩⟩
  ·have hq2:q < (b7 [] M o).length:=by have:=z0e hlq; omega
   simp only[c1u]
   have e:a0r E o (w7 M o) ((x8 M o).take (q + 1))=(decide (0≤b7 0 (b7 [] M o) q) && decide (b7 0 (b7 [] M o) q < E.length) && !(w7 M o ++ (x8 M o).take q).contains (b7 0 (b7 [] M o) q) && wrE (b7 e0 E (b7 0 (b7 [] M o) q).toNat) && (b7 e0 E (b7 0 (b7 [] M o) q).toNat).ob == o):=by
    have h3:(x8 M o).take (q + 1)=(x8 M o).take q ++ [b7 0 (x8 M o) q]:=b7l (by rw[hro]; exact hq2)
    rw[h3,b95,hq.2.2,z0y]; rfl
   generalize hx:b7 0 (b7 [] M o) q=x at *
   have hin:∀ {p:Bool},((decide (x < 0) || decide (x ≥ ↑E.length) || p)=false)→0≤x∧x < ↑E.length:=fun {p} h=>by
    simp only[z1j,z1k] at h; omega
   have up:∀ {p q:Bool},(p || q)=false→p=false:=fun h=>(z1j.1 h).1
   refine⟨⟨by omega,by omega⟩,hq2,fun h3=>hin h3,fun h3=>a10 (hin h3),fun h3=>hin (up h3),fun h3=>a10 (hin (up h3)),fun h3=>?_,fun h3=>⟨q + 1,⟨?_,ho2,?_⟩,?_,wrS (n:=(b7 [] M o).length) hq2 (hrow o ho2),fun a=>?_⟩⟩
   ·refine(d2v (q:=q + 1) ho2 hob ?_).symm
    rw[e]
    by_cases b1:x < 0
    ·have:decide (0≤x)=false:=by simp; omega
     rw[this]; simp
    by_cases b2:x ≥ E.length
    ·have:decide (x < (E.length:Int))=false:=by simp; omega
     rw[this]; simp
    have c1:decide (x < 0)=false:=by simp; omega
    have c2:decide (x ≥ (E.length:Int))=false:=by simp; omega
    rw[c1,c2] at h3
    simp only[Bool.false_or,z1u,z0v,bne_iff_ne] at h3
    rcases h3 with(h3 | h3) | h3
    ·rw[h3]; simp
    ·rw[h3]; simp
    ·have:((b7 e0 E x.toNat).ob == (o:Int))=false:=by simpa using h3
     rw[this]; simp
   ·rw[hro]; omega
   ·rw[e]
    simp only[z1j,z1k] at h3
    obtain⟨⟨⟨⟨b1,b2⟩,b3⟩,b4⟩,b5⟩:=h3
    have c1:decide (0≤x)=true:=by simp; omega
    have c2:decide (x < (E.length:Int))=true:=by simp; omega
    rw[c1,c2,b3]
    simp at b4 b5
    simp[b4,b5]
   ·rw[hro]; omega
   ·have h3:(x8 M o).take (q + 1)=(x8 M o).take q ++ [b7 0 (x8 M o) q]:=b7l (by rw[hro]; exact hq2)
    rw[h3,hro,hx,← z1x]
    exact b7f _ x a
  ·have hq2:q=(b7 [] M o).length:=by have:=z0i hlq; have:=hq.1; rw[hro] at this; omega
   have ht:(x8 M o).take q=x8 M o:=by rw[hq2,← hro,z3u]
   have hg:=hq.2.2
   rw[ht] at hg ⊢
   refine⟨o + 1,⟨by omega,?_⟩,by omega,wrS (n:=M.length) ho2 (by omega),fun x=>rfl⟩
   simp only[a1z,ho.2,z0y]; exact hg
 ·have ho2:o=M.length:=by have:=z0i hlo; omega
  subst ho2
  have hg:=ho.2
  rw[c79 (a9l (E:=E) (a56.1 hg)).1,← b97 hob,hg,z0y]
theorem n33 (nm:List (Option AV)):CallOk Tryz.prog GL 33 (q6 EL gbT nm [PG] c77):=a5i Tryz.func33 fo33 fun av pre rv h=>by
 unfold c77 at h; split at h <;> cases h
 exact⟨⟨rfl,fun t a e=>by cases e <;> exact z0h _ _⟩,fun hp=>⟨_,v33 _ _ _ (hp _ (.head _)),rfl,(o5 (n79 _) (o5 (a1n (n80 _)) (o5 (a1n (n81 _)) v4))),v5⟩⟩
def a5d (nm:List (Option AV)):Nat × (List MBlk→List SV→Option AR):=(33,q6 EL gbT nm [PG] c77)
def a4u (f:Int→Option Int) (l:List Int):Nat→Int→Option Int
 | 0=>f
 | q + 1=>fun a=>bif a == b7 0 l q then some (q:Int) else a4u f l q a
def b2y (M:List (List Int)):Nat→Int→Option Int
 | 0=>fun _=>none
 | o + 1=>a4u (b2y M o) (x8 M o) (x8 M o).length
def plM (M:List (List Int)):Int→Option Int:=b2y M M.length
def lP1 (M:List (List Int)) (t r:Nat):LAnn:=s8 M.length t (fun _=>True) (fun o=>[(r,.mapi .i64 (some .i64) (b2y M o))]) []
def lP2 (M:List (List Int)) (t r:Nat):PLoop:=⟨Nat,fun o=>{ X:=Nat,inv:=fun q=>q≤(x8 M o).length∧o < M.length,slots:=fun q=>[(t,.i .i64 (q:Int))],mem:=fun q=>[(r,.mapi .i64 (some .i64) (a4u (b2y M o) (x8 M o) q))],mu:=fun q=>(x8 M o).length - q,kill:=[] }⟩
def sPl:SpG:=fun
 | [.ag [.es E,.is R,.rs M]]=>some ([SzG E M∧M.length≤8],.m1 .i64 (some .i64) (plM M))
 | _=>none
def kPl (nm:List (Option AV)):Nat × (List MBlk→List SV→Option AR):=(104,q6 EL none nm [PG] sPl)
theorem e08:s5 Tryz.prog 104:=⟨Tryz.f104,Tryz.func104,by kernel_rfl,by kernel_rfl⟩
def d5h (E:List Ev) (R:List Int) (M:List (List Int)):Prop:=s4 (({ loops:=[(0,.of (lP1 M 12 4)),(2,lP2 M 18 4)] }:Kit)).tab Tryz.f104 [grV E R M] (grM E R M) ((QV.m1 .i64 (some .i64) (plM M)).post EL)
theorem d3s (E:List Ev) (R:List Int) (M:List (List Int)):d5h E R M=(
 let a:=E.length=E.length∧R.length=R.length∧M.length=M.length
 let b:=(↑M.length:Int)
 let c:=PLoop.of (lP1 M (12:Nat) (4:Nat))
 let d:=(0:Int)
 ∃(x:PUnit),(∃(x:Nat),(x≤M.length∧True)∧(d=(↑x:Int)∧True)∧(∀(x_1:Int),none=b2y M x x_1)∧True)∧∀(x_1:Nat),x_1≤M.length∧True→(decide ((↑x_1:Int) < b)=true→(d≤(↑x_1:Int)∧(↑x_1:Int) < b)∧x_1 < M.length∧∃(x_2:Nat),(∃(x:Nat),(x≤(x8 M (↑x_2:Int)).length∧x_2 < M.length)∧(d=(↑x:Int)∧True)∧(∀(x_3:Int),b2y M x_1 x_3=a4u (b2y M x_2) (x8 M (↑x_2:Int)) x x_3)∧True)∧∀(x_3:Nat),x_3≤(x8 M (↑x_2:Int)).length∧x_2 < M.length→(decide ((↑x_3:Int) < (↑(b7 [] M x_1).length:Int))=true→(d≤(↑x_3:Int)∧(↑x_3:Int) < (↑(b7 [] M x_1).length:Int))∧x_3 < (b7 [] M x_1).length∧∃(x:Nat),(x≤(x8 M (↑x_2:Int)).length∧x_2 < M.length)∧((lP2 M (18:Nat) (4:Nat)).ann x_2).mu x < ((lP2 M (18:Nat) (4:Nat)).ann x_2).mu x_3∧(a∧True∧True∧True∧(b7 [] M x_1).length=(b7 [] M x_1).length∧True∧True∧M.length=M.length∧b=b∧(↑x_1:Int)=(↑x_1:Int)∧true=true∧x_1=x_1∧(b7 [] M x_1).length=(b7 [] M x_1).length∧(b7 [] M x_1).length=(b7 [] M x_1).length∧(↑(b7 [] M x_1).length:Int)=(↑(b7 [] M x_1).length:Int)∧IntKind.i64.wrap ((↑x_3:Int) + (1:Int))=(↑x:Int)∧True)∧eqA E.length (i6 E)∧eqA R.length (e8 R)∧eqA M.length (i4 M)∧a∧(∀(x_4:Int),(bif x_4 ==b7 d (b7 [] M x_1) x_3 then some (↑x_3:Int) else a4u (b2y M x_2) (x8 M (↑x_2:Int)) x_3 x_4)=a4u (b2y M x_2) (x8 M (↑x_2:Int)) x x_4)∧eqA (b7 [] M x_1).length [Col.int IntKind.i64 fun(i:Nat)=>b7 d (b7 [] M x_1) i]∧True)∧(decide ((↑x_3:Int) < (↑(b7 [] M x_1).length:Int))=false→∃(x_4:Nat),(x_4≤M.length∧True)∧(c.ann x).mu x_4 < (c.ann x).mu
 x_1∧(a∧True∧True∧True∧True∧True∧M.length=M.length∧b=b∧IntKind.i64.wrap ((↑x_1:Int) + (1:Int))=(↑x_4:Int)∧True)∧eqA E.length (i6 E)∧eqA R.length (e8 R)∧eqA M.length (i4 M)∧a∧(∀(x:Int),a4u (b2y M x_2) (x8 M (↑x_2:Int)) x_3 x=b2y M x_4 x)∧True))∧(decide ((↑x_1:Int) < b)=false→∀(j:Int),b2y M x_1 j=plM M j)):=by kernel_rfl
theorem v104 (E:List Ev) (R:List Int) (M:List (List Int)) (h:SzG E M∧M.length≤8):d5h E R M:=by
 rw[d3s]
 have hM:M.length≤8:=h.2
 have hrow:∀ o,o < M.length→(b7 [] M o).length≤1099511627776:=fun o ho=>h.1.2 h.2 _ (by rw[m7 [] M _ ho]; exact z1v ho)
 simp only[eq_self,true_and,and_true,z0o,imp_self,o6,o8,p7,i7,i9,PLoop.of,s8,AV.len,j4,z0u,l4,l5,l6,m8,m9,n5,lP1,lP2]
 refine⟨(),⟨0,by omega,rfl,fun _=>rfl⟩,fun o ho=>⟨fun hlo=>?_,fun hlo=>?_⟩⟩
 ·have ho2:o < M.length:=by have:=z0e hlo; omega
  have hro:x8 M o=b7 [] M o:=rfl
  refine⟨⟨by omega,by omega⟩,ho2,o,⟨0,⟨by omega,ho2⟩,rfl,fun _=>rfl⟩,fun q hq=>⟨fun hlq=>?_,fun hlq=>?_⟩⟩
  ·have hq2:q < (b7 [] M o).length:=by have:=z0e hlq; omega
   exact⟨⟨by omega,by omega⟩,hq2,q + 1,⟨by rw[hro]; omega,ho2⟩,by rw[hro]; omega,wrS (n:=(b7 [] M o).length) hq2 (hrow o ho2),fun _=>rfl⟩
  ·have hq2:q=(b7 [] M o).length:=by have:=z0i hlq; have:=hq.1; rw[hro] at this; omega
   exact⟨o + 1,by omega,by omega,wrS (n:=M.length) ho2 (by omega),fun x=>by rw[hq2,← hro]; rfl⟩
 ·have ho2:o=M.length:=by have:=z0i hlo; omega
  subst ho2
  exact fun _=>rfl
theorem n104 (nm:List (Option AV)):CallOk Tryz.prog [] 104 (q6 EL none nm [PG] sPl):=z4 Tryz.func104 e08 fun av pre rv h=>by
 unfold sPl at h; split at h <;> cases h
 exact⟨⟨rfl,fun t a e=>by cases e <;> exact z0h _ _⟩,fun hp=>⟨_,v104 _ _ _ (hp _ (.head _)),rfl,v4,v5⟩⟩
def l8:GF:=fun E _ M i k=>wrE (evA E i) && wrE (evA E k) && (evA E i).ob == (evA E k).ob && decide (z8 (plM M i) < z8 (plM M k))
def l7:GF:=fun E R M i k=>!(i == k) && rdE (evA E i) && wrE (evA E k) && (evA E i).ob == (evA E k).ob && (decide (inA R i < 0) || decide (z8 (plM M (inA R i)) < z8 (plM M k)))
end Go.Proofs.YtaeeaniofljmnaaGreatDoor
