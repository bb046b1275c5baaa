/-
  A part of the proof (JV3).
-/
import Derived.Test.YtaeeaniofljmnaaGreatDoorJ18
namespace Go.Proofs.YtaeeaniofljmnaaGreatDoor
set_option linter.unusedSimpArgs false
set_option linter.unusedVariables false
open Go Go.Proofs.YtaeeaniofljmnaaGreatDoor.Sx
set_option maxRecDepth 100000
def a2r (E:List Ev) (o:Int) (j:Int):Bool:=wrE (evA E j) && (evA E j).ob == o
def a66 (E:List Ev) (o:Int):Nat→Int
 | 0=>0
 | j + 1=>bif a2r E o j then a66 E o j + 1 else a66 E o j
theorem d0l (E:List Ev) (o:Int):∀ j,0≤a66 E o j∧a66 E o j≤j:=by
 intro j
 induction j with
 | zero=>simp[a66]
 | succ j ih=>simp only[a66]; cases a2r E o j <;> simp <;> omega
def a8l (E:List Ev) (M:List (List Int)) (o:Int) (j:Int):Bool:=!(a2r E o j && decide (y6 (x6 M o) j < 0))
def a4r (E:List Ev) (M:List (List Int)) (o:Int):Bool:=m8 (a8l E M o) E.length && ((x6 M o).length:Int) == a66 E o E.length
def b8 (E:List Ev) (R:List Int) (M:List (List Int)):Bool:=
 decide (E.length≤64) && decide (R.length=E.length) && decide (M.length≤8) && a7d E M.length && m8 (a1n E R) E.length && m8 (a4r E M) M.length
def SzG (E:List Ev) (M:List (List Int)):Prop:=L40 E.length∧(M.length≤8→∀ r∈M,L40 r.length)
def c68:SpG:=fun
 | [.ag [.es E,.is R,.rs M]]=>some ([SzG E M],.rv (.pl (.b (b8 E R M))))
 | _=>none
def c7e (nm:List (Option AV)):Nat × (List MBlk→List SV→Option AR):=(34,o5 EL none nm [PG] c68)
def c52 (E:List Ev) (M:List (List Int)) (t c:Nat):PLoop:=⟨Nat,fun o=>{ X:=Nat,inv:=fun j=>j≤E.length∧o < M.length∧m8 (a8l E M o) j=true,slots:=fun j=>[(t,.i .i64 (j:Int)),(c,.i .i64 (a66 E o j))],mem:=fun _=>[],mu:=fun j=>E.length - j,kill:=[] }⟩
theorem fo34:p8 Tryz.prog 34:=⟨Tryz.f34,Tryz.func34,by kernel_rfl,by kernel_rfl⟩
def q34D (E:List Ev) (R:List Int) (M:List (List Int)):Prop:=p7 (({ calls:=[kLsd (nmG E R M),kSrc (nmG E R M),kE1 84 wrE,c4v 66 []],loops:=[(0,.of (lAl (a1n E R) E.length 3)),(2,.of (lAl (a4r E M) M.length 4)),(4,c52 E M 6 5)] }:Kit)).tab Tryz.f34 [grV E R M] (grM E R M) (l4 (.b (b8 E R M)))
theorem d7j (E:List Ev) (R:List Int) (M:List (List Int)):q34D E R M=(
 let a:=decide ((↑E.length:Int) > (64:Int)) || (↑R.length:Int) !=(↑E.length:Int) || decide ((↑M.length:Int) > (8:Int))
 let b:=decide ((↑E.length:Int) > (64:Int)) || (↑R.length:Int) !=(↑E.length:Int)
 let c:=(↑E.length:Int)
 let d:=E.length=E.length∧R.length=R.length∧M.length=M.length
 let e:=c > (64:Int)
 let f:=(↑M.length:Int)
 let g:=decide e || (↑R.length:Int) !=c || decide (f > (8:Int)) || !a7d E M.length
 let h:=c52 E M (6:Nat) (5:Nat)
 let j:=(0:Int)
 let k:=PLoop.of (lAl (a1n E R) E.length (3:Nat))
 let l:=PLoop.of (lAl (a4r E M) M.length (4:Nat))
 (a=false→E.length=E.length)∧(a=false→R.length=R.length)∧(a=false→M.length=M.length)∧(a=false→nE E)∧(a=false→nI R)∧(a=false→nR M)∧(a=false→E.length≤(1099511627776:Nat))∧(g=true→false=b8 E R M)∧(g=false→∃(x:PUnit),(∃(x:Nat),(x≤E.length∧m8 (a1n E R) x=true)∧(j=(↑x:Int)∧True)∧True)∧∀(x_1:Nat),x_1≤E.length∧m8 (a1n E R) x_1=true→(decide ((↑x_1:Int) < c)=true→E.length=E.length∧R.length=R.length∧M.length=M.length∧nE E∧nI R∧nR M∧((j≤(↑x_1:Int)∧(↑x_1:Int) < c)∧R.length=E.length)∧((!a1n E R (↑x_1:Int))=true→false=b8 E R M)∧((!a1n E R (↑x_1:Int))=false→∃(x_2:Nat),(x_2≤E.length∧m8 (a1n E R) x_2=true)∧(k.ann x).mu x_2 < (k.ann x).mu x_1∧(d∧True∧IntKind.i64.wrap ((↑x_1:Int) + (1:Int))=(↑x_2:Int)∧True∧E.length=E.length∧c=c∧decide e=decide e∧decide e=decide e∧b=b∧b=b∧a=a∧a=a∧false=false∧True)∧eqA E.length (i6 E)∧eqA R.length (f7 R)∧eqA M.length (i4 M)∧d∧True))∧(decide ((↑x_1:Int) < c)=false→∃(x:PUnit),(∃(x:Nat),(x≤M.length∧m8 (a4r E M) x=true)∧(j=(↑x:Int)∧True)∧True)∧∀(x_2:Nat),x_2≤M.length∧m8 (a4r E M) x_2=true→(decide ((↑x_2:Int) < f)=true→∃(x_3:Nat),(∃(x:Nat),(x≤E.length∧x_3 < M.length∧m8 (a8l E M (↑x_3:Int)) x=true)∧(j=(↑x:Int)∧j=a66 E (↑x_3:Int) x∧True)∧True)∧∀(x_4:Nat),x_4≤E.length∧x_3 < M.length∧m8 (a8l E M (↑x_3:Int)) x_4=true→(decide ((↑x_4:Int) < c)=true→(j≤(↑x_4:Int)∧(↑x_4:Int) < c)∧x_4 < E.length∧(wrE (b6 e0 E x_4)=true→j≤(↑x_4:Int)∧(↑x_4:Int) < c)∧(wrE (b6 e0 E x_4)=true→x_4 < E.length)∧((wrE (b6 e0 E x_4) && (b6 e0 E x_4).ob ==(↑x_2:Int))=true→(j≤(↑x_2:Int)∧(↑x_2:Int) < f)∧x_2
 < M.length∧(b6 [] M x_2).length=(b6 [] M x_2).length∧(mkN (fun(i:Nat)=>b6 j (b6 [] M x_2) i) (b6 [] M x_2).length).length≤(1099511627776:Nat)∧(decide (y6 (mkN (fun(i:Nat)=>b6 j (b6 [] M x_2) i) (b6 [] M x_2).length) (↑x_4:Int) < j)=true→false=b8 E R M)∧(decide (y6 (mkN (fun(i:Nat)=>b6 j (b6 [] M x_2) i) (b6 [] M x_2).length) (↑x_4:Int) < j)=false→∃(x:Nat),(x≤E.length∧x_3 < M.length∧m8 (a8l E M (↑x_3:Int)) x=true)∧(h.ann x_3).mu x < (h.ann x_3).mu x_4∧(d∧True∧(↑x_1:Int)=(↑x_1:Int)∧(↑x_2:Int)=(↑x_2:Int)∧IntKind.i64.wrap (a66 E (↑x_3:Int) x_4 + (1:Int))=a66 E (↑x_3:Int) x∧IntKind.i64.wrap ((↑x_4:Int) + (1:Int))=(↑x:Int)∧True∧E.length=E.length∧c=c∧decide e=decide e∧decide e=decide e∧b=b∧b=b∧a=a∧a=a∧false=false∧(↑x_1:Int)=(↑x_1:Int)∧True∧E.length=E.length∧c=c∧false=false∧(↑x_2:Int)=(↑x_2:Int)∧True∧M.length=M.length∧f=f∧true=true∧True)∧eqA E.length (i6 E)∧eqA R.length (f7 R)∧eqA M.length (i4 M)∧d∧True))∧((wrE (b6 e0 E x_4) && (b6 e0 E x_4).ob ==(↑x_2:Int))=false→∃(x:Nat),(x≤E.length∧x_3 < M.length∧m8 (a8l E M (↑x_3:Int)) x=true)∧(h.ann x_3).mu x < (h.ann x_3).mu x_4∧(d∧True∧(↑x_1:Int)=(↑x_1:Int)∧(↑x_2:Int)=(↑x_2:Int)∧a66 E (↑x_3:Int) x_4=a66 E (↑x_3:Int) x∧IntKind.i64.wrap ((↑x_4:Int) + (1:Int))=(↑x:Int)∧True∧E.length=E.length∧c=c∧decide e=decide e∧decide e=decide e∧b=b∧b=b∧a=a∧a=a∧false=false∧(↑x_1:Int)=(↑x_1:Int)∧True∧E.length=E.length∧c=c∧false=false∧(↑x_2:Int)=(↑x_2:Int)∧True∧M.length=M.length∧f=f∧true=true∧True)∧eqA E.length (i6 E)∧eqA R.length (f7 R)∧eqA M.length (i4
 M)∧d∧True))∧(decide ((↑x_4:Int) < c)=false→(j≤(↑x_2:Int)∧(↑x_2:Int) < f)∧x_2 < M.length∧(((↑(b6 [] M x_2).length:Int) !=a66 E (↑x_3:Int) x_4)=true→false=b8 E R M)∧(((↑(b6 [] M x_2).length:Int) !=a66 E (↑x_3:Int) x_4)=false→∃(x_5:Nat),(x_5≤M.length∧m8 (a4r E M) x_5=true)∧(l.ann x).mu x_5 < (l.ann x).mu x_2∧(d∧True∧(↑x_1:Int)=(↑x_1:Int)∧IntKind.i64.wrap ((↑x_2:Int) + (1:Int))=(↑x_5:Int)∧True∧E.length=E.length∧c=c∧decide e=decide e∧decide e=decide e∧b=b∧b=b∧a=a∧a=a∧false=false∧(↑x_1:Int)=(↑x_1:Int)∧True∧E.length=E.length∧c=c∧false=false∧True)∧eqA E.length (i6 E)∧eqA R.length (f7 R)∧eqA M.length (i4 M)∧d∧True)))∧(decide ((↑x_2:Int) < f)=false→true=b8 E R M)))):=by kernel_rfl
theorem v34 (E:List Ev) (R:List Int) (M:List (List Int)) (h:SzG E M):q34D E R M:=by
 rw[d7j]
 have hL:E.length≤1099511627776:=h.1
 have hrow:M.length≤8→∀ o,o < M.length→(b6 [] M o).length≤1099511627776:=fun h8 o ho=>h.2 h8 _ (by rw[o6 [] M _ ho]; exact z1r ho)
 simp only[eq_self,true_and,and_true,z0n,imp_self,l9,m6,n5,g7,g8,PLoop.of,q6,AV.len,g9,z0s,i9,j4,j5,l5,l6,l7,lAl,c52]
 refine⟨fun _=>hL,fun h1=>?_,fun h1=>?_⟩
 ·cases hv:b8 E R M with
  | false=>rfl
  | true =>
   exfalso
   simp only[b8,z0d,z1i] at hv
   obtain⟨⟨⟨⟨⟨a1,a2⟩,a3⟩,a4⟩,a5⟩,a6⟩:=hv
   simp[a4,a2] at h1
   omega
 have hh:E.length≤64∧R.length=E.length∧M.length≤8∧a7d E M.length=true:=by
  simp at h1
  refine⟨?_,?_,?_,?_⟩ <;> first | omega | exact h1.2
 obtain⟨a1,a2,a3,a4⟩:=hh
 have hrow:=hrow a3
 have hv:b8 E R M=(m8 (a1n E R) E.length && m8 (a4r E M) M.length):=by simp[b8,a1,a2,a3,a4]
 refine⟨(),⟨0,⟨by omega,rfl⟩,rfl⟩,fun i hi=>⟨fun hlt=>?_,fun hlt=>?_⟩⟩
 ·have hi2:i < E.length:=by have:=z0e hlt; omega
  refine⟨⟨⟨by omega,by omega⟩,a2⟩,fun hs=>?_,fun hs=>⟨i + 1,⟨by omega,?_⟩,by omega,wrS (n:=E.length) hi2 hL⟩⟩
  ·rw[hv,a0r (j:=i) hi2 (by simpa using hs)]; rfl
  ·simp only[m8,hi.2,z1h]; simpa using hs
 have hi2:i=E.length:=by have:=z0i hlt; omega
 have hsrc:m8 (a1n E R) E.length=true:=by have:=hi.2; rwa [hi2] at this
 rw[hv,hsrc,z1h]
 refine⟨(),⟨0,⟨by omega,rfl⟩,rfl⟩,fun o ho=>⟨fun hlo=>?_,fun hlo=>?_⟩⟩
 ·have ho2:o < M.length:=by have:=z0e hlo; omega
  refine⟨o,⟨0,⟨by omega,ho2,rfl⟩,rfl,rfl⟩,fun j hj=>⟨fun hlj=>?_,fun hlj=>?_⟩⟩
  ·have hj2:j < E.length:=by have:=z0e hlj; omega
   have e:a8l E M o j = !((wrE (b6 e0 E j) && (b6 e0 E j).ob == o) && decide (y6 (b6 [] M o) j < 0)):=rfl
   have ew:a2r E o j=(wrE (b6 e0 E j) && (b6 e0 E j).ob == o):=rfl
   have hc:=d0l E o j
   have hw1:=wrS (n:=E.length) hj2 hL
   refine⟨⟨by omega,by omega⟩,hj2,fun _=>⟨by omega,by omega⟩,fun _=>hj2,fun hw=>⟨⟨by omega,by omega⟩,ho2,hrow o ho2,fun hp=>?_,fun hp=>⟨j + 1,⟨by omega,ho2,?_⟩,by omega,?_,hw1⟩⟩,fun hw=>⟨j + 1,⟨by omega,ho2,?_⟩,by omega,?_,hw1⟩⟩
   ·refine(a0r ho2 ?_).symm
    rw[a4r,a0r (j:=j) hj2 (by rw[e,hw,hp]; rfl)]; rfl
   ·simp only[m8,hj.2.2,z1h]; rw[e,hp]; simp
   ·simp only[a66]; rw[ew,hw,z0f]; exact a46 (by omega) (by omega)
   ·simp only[m8,hj.2.2,z1h]; rw[e,hw]; rfl
   ·simp only[a66]; rw[ew,hw,z0l]
  ·have hj2:j=E.length:=by have:=z0i hlj; omega
   have hall:m8 (a8l E M o) E.length=true:=by have:=hj.2.2; rwa [hj2] at this
   have e:a4r E M o=(((b6 [] M o).length:Int) == a66 E o E.length):=by rw[a4r,hall,z1h]; rfl
   rw[hj2]
   refine⟨⟨by omega,by omega⟩,ho2,fun hc=>?_,fun hc=>⟨o + 1,⟨by omega,?_⟩,by omega,wrS (n:=M.length) ho2 (by omega)⟩⟩
   ·refine(a0r ho2 ?_).symm
    rw[e]; simpa using hc
   ·simp only[m8,ho.2,z1h]; rw[e]; simpa using hc
 ·have ho2:o=M.length:=by have:=z0i hlo; omega
  have:=ho.2
  rw[ho2] at this
  exact this.symm
theorem n34 (nm:List (Option AV)):CallOk Tryz.prog [] 34 (o5 EL none nm [PG] c68):=x4 Tryz.func34 fo34 fun av pre rv h=>by
 unfold c68 at h; split at h <;> cases h
 exact⟨⟨rfl,fun t a e=>by cases e <;> exact z0h _ _⟩,fun hp=>⟨_,v34 _ _ _ (hp _ (.head _)),rfl,(m9 (n82 _) (m9 (n83 _) (m9 (n84 _) (m9 (n66 _) t9)))),u4⟩⟩
def relE (err N:Int):Nat→SV:=fun n=>.tup [b4q N n,.i .i64 err]
def b4r (v:Bool) (N:Int) (l:List Pq):QV:=.rv (.sl (relE (bif v then 0 else 1) (bif v then N else 0)) (.ps (l8 v l)))
def d6g:SpG:=fun
 | [.ag [.es E,.is R,.rs M],.st s]=>some ([SzG E M∧L40 s.size],b4r (b8 E R M) E.length (b7 E.length (j8 s E R M)))
 | _=>none
def kNam (nm:List (Option AV)):Nat × (List MBlk→List SV→Option AR):=(50,o5 EL none nm [PG,.st] d6g)
theorem a06 {E:List Ev} {R:List Int} {M:List (List Int)} (hv:b8 E R M=true) (hs:SzG E M):GOk E R M∧E.length≤64:=by
 simp only[b8,z0d,z1i] at hv
 obtain⟨⟨⟨⟨⟨a1,a2⟩,a3⟩,a4⟩,a5⟩,a6⟩:=hv
 have hev:∀ i:Int,0≤i→i < E.length→a6p E M.length i=true:=fun i h0 h1=>by
  have:=a02.1 a4 i.toNat (by omega)
  rwa [z1q h0] at this
 have hsr:∀ i:Int,0≤i→i < E.length→a1n E R i=true:=fun i h0 h1=>by
  have:=a02.1 a5 i.toNat (by omega)
  rwa [z1q h0] at this
 have hin:∀ j:Int,0≤j→j < E.length→inA R j < E.length∧(rdE (evA E j)=true→inA R j = -1∨(0≤inA R j∧inA R j < E.length)):=fun j h0 h1=>by
  have h:=hsr j h0 h1
  unfold a1n at h
  cases hr:rdE (evA E j)
  ·rw[hr] at h
   simp at h
   exact⟨by omega,fun h=>by cases h⟩
  ·rw[hr] at h
   by_cases hb:inA R j < 0∨inA R j ≥ E.length
   ·have e:(decide (inA R j < 0) || decide (inA R j ≥ E.length))=true:=by simpa using hb
    simp only[z2p,z0l,e,z0f,beq_iff_eq] at h
    exact⟨by omega,fun _=>.inl h⟩
   ·exact⟨by omega,fun _=>.inr ⟨by omega,by omega⟩⟩
 refine⟨⟨⟨hs.2 a3,fun i h0 h1 hw=>?_⟩,⟨a2,fun j h0 h1=>(hin j h0 h1).1⟩,hs.1,fun j h0 h1=>(hin j h0 h1).2⟩,a1⟩
 have h:=hev i h0 h1
 simp only[a6p,z0d,hw,Bool.or_true,z1h,z0v,z1g] at h
 have hv:=h.1.1.1.1.1
 simp only[q9,z0d] at hv
 have ho:a1u (evA E i)=true:=hv.1.1.1.1.1.1.1.1.2
 have hk:(evA E i).k=2∨(evA E i).k=5:=by simpa [wrE] using hw
 refine⟨?_,by omega⟩
 rcases hk with hk | hk <;> simp[a1u,hk,v5] at ho <;> omega
theorem fo50:p8 Tryz.prog 50:=⟨Tryz.f50,Tryz.func50,by kernel_rfl,by kernel_rfl⟩
def q50D (E:List Ev) (R:List Int) (M:List (List Int)) (s:ByteArray):Prop:=p7 (({ calls:=[c7e (nmG E R M),kUni (nmG E R M)] }:Kit)).tab Tryz.f50 [grV E R M,.v (.string s)] (grM E R M) ((b4r (b8 E R M) E.length (b7 E.length (j8 s E R M))).post EL)
theorem d7p (E:List Ev) (R:List Int) (M:List (List Int)) (s:ByteArray):q50D E R M s=(
 let a:=b7 (↑E.length:Int) (j8 s E R M)
 let b:=AV.ps (l8 (b8 E R M) a)
 let c:=(↑E.length:Int)
 let d:=(0:Int)
 let e:=(1099511627776:Nat)
 E.length=E.length∧R.length=R.length∧M.length=M.length∧nE E∧nI R∧nR M∧(E.length≤e∧(M.length≤(8:Nat)→∀(r:List Int),List.Mem r M→r.length≤e))∧((!b8 E R M)=true→b.len=(0:Nat)∧((d=bif b8 E R M then c else d)∧b.len=(0:Nat)∧True)∧((1:Int)=bif b8 E R M then d else(1:Int))∧True)∧((!b8 E R M)=false→E.length=E.length∧R.length=R.length∧M.length=M.length∧nE E∧nI R∧nR M∧((((∀(r:List Int),List.Mem r M→r.length≤e)∧∀(i:Int),d≤i→i < c→wrE (evA E i)=true→d≤(evA E i).ob∧(evA E i).ob < (↑M.length:Int))∧(R.length=E.length∧∀(j:Int),d≤j→j < c→inA R j < c)∧E.length≤e∧∀(j:Int),d≤j→j < c→rdE (evA E j)=true→inA R j=(-1:Int)∨d≤inA R j∧inA R j < c)∧E.length≤(64:Nat)∧s.size≤e)∧(AV.ps a).len=b.len∧((∀(j:Nat),j < b.len→(b6 (d,d) a j).fst=(b6 (d,d) (l8 (b8 E R M) a) j).fst)∧(∀(j:Nat),j < b.len→(b6 (d,d) a j).snd=(b6 (d,d) (l8 (b8 E R M) a) j).snd)∧True)∧((c=bif b8 E R M then c else d)∧(AV.ps a).len=b.len∧True)∧(d=bif b8 E R M then d else(1:Int))∧True)):=by kernel_rfl
theorem v50 (E:List Ev) (R:List Int) (M:List (List Int)) (s:ByteArray) (h:SzG E M∧L40 s.size):q50D E R M s:=by
 rw[d7p]
 cases hv:b8 E R M
 ·simp only[eq_self,true_and,and_true,z0n,imp_self,l9,m6,n5,g7,g8,PLoop.of,q6,AV.len,g9,z0s,i9,j4,j5,l5,l6,l7,l8,z0l,z3c]
  exact⟨⟨h.1.1,h.1.2⟩,by simp⟩
 ·obtain⟨hG,hN⟩:=a06 hv h.1
  simp only[eq_self,true_and,and_true,z0n,imp_self,l9,m6,n5,g7,g8,PLoop.of,q6,AV.len,g9,z0s,i9,j4,j5,l5,l6,l7,l8,z0f,z2p]
  exact⟨⟨h.1.1,h.1.2⟩,by simp,⟨⟨hG.1.1,hG.1.2⟩,⟨hG.2.1.1,hG.2.1.2⟩,hG.2.2.1,hG.2.2.2⟩,hN,h.2⟩
theorem n50 (nm:List (Option AV)):CallOk Tryz.prog [] 50 (o5 EL none nm [PG,.st] d6g):=x4 Tryz.func50 fo50 fun av pre rv h=>by
 unfold d6g at h; split at h <;> cases h
 exact⟨⟨rfl,fun t a e=>by cases e <;> exact z0h _ _⟩,fun hp=>⟨_,v50 _ _ _ _ (hp _ (.head _)),rfl,(m9 (n34 _) (m9 (n107 _) t9)),u4⟩⟩
def a59 (fn:GF):SpG:=fun
 | [.ag [.es E,.is R,.rs M]]=>some ([SzG E M],b4r (b8 E R M) E.length (b7 E.length (fn E R M)))
 | _=>none
def a5p (n:Nat) (f:Pf):List Pq:=b7 n (wF (d7 (b7 n f)) n)
theorem d18 (f:Pf) {n:Nat} (hN:n≤64):(b7 n f).length≤1099511627776:=by
 rw[a6c]
 have h1:=a2v f n n
 have h3:n * n≤64 * 64:=z3a (by omega) (by omega)
 omega
def b0o (E:List Ev) (j:Nat):Int→Option Int:=fun a=>bif a1y a E j == 0 then none else some (a1y a E j)
def lVe (E:List Ev) (m t r:Nat):LAnn:=q6 E.length t (fun j=>m8 (a6p E m) j=true) (fun j=>[(r,.mapi .i64 (some .i64) (b0o E j))]) []
def sVe:SpG:=fun
 | [.lf (.es E),.lf (.i m)]=>some ([L40 E.length∧0≤m],.rv (.pl (.b (a7d E m.toNat))))
 | _=>none
def kVe (nm:List (Option AV)):Nat × (List MBlk→List SV→Option AR):=(79,o5 EL gbT nm [.lf .es,.lf .i] sVe)
theorem d04 (E:List Ev) (j:Nat) (a:Int):a1x (b0o E j a)=a1y a E j:=by
 unfold b0o
 cases h:a1y a E j == 0
 ·rfl
 ·simp only[z0f,a1x]; simp at h; exact h.symm
theorem c4a {E:List Ev} {j:Nat} (hj:j < 1099511627776) (x:Int):(bif x == (b6 e0 E j).ag then some (IntKind.i64.wrap (a1y (b6 e0 E j).ag E j + 1)) else b0o E j x)=b0o E (j + 1) x:=by
 have h5:=b8u (b6 e0 E j).ag E j
 cases h:x == (b6 e0 E j).ag
 ·have h2:((b6 e0 E j).ag == x)=false:=by
   have:x≠(b6 e0 E j).ag:=by simpa using h
   simpa using fun e=>this e.symm
  simp only[z0l,b0o,a1y,h2]
 ·have h2:x=(b6 e0 E j).ag:=by simpa using h
  subst h2
  have h3:(a1y (b6 e0 E j).ag E j + 1 == 0)=false:=by simp; omega
  simp only[z0f,b0o,a1y,beq_self_eq_true,h3,z0l]
  rw[a46 (by omega) (by omega)]
theorem fo79:p8 Tryz.prog 79:=⟨Tryz.f79,Tryz.func79,by kernel_rfl,by kernel_rfl⟩
def q79D (E:List Ev) (m:Int):Prop:=p7 (({ g:=true,calls:=[kVE,kE1 80 rdE,kE1 81 wrE],loops:=[(0,.of (lVe E m.toNat 11 2))] }:Kit)).tab Tryz.f79 [.sl 1 E.length,.i .i64 m] [tbl,.arr E.length (i6 E)] (l4 (.b (a7d E m.toNat)))
theorem d89 (E:List Ev) (m:Int):q79D E m=(
 let a:=PLoop.of (lVe E m.toNat (11:Nat) (2:Nat))
 let b:=(↑E.length:Int)
 let c:=a6p E m.toNat
 ∃(x:PUnit),(∃(x:Nat),(x≤E.length∧m8 c x=true)∧((0:Int)=(↑x:Int)∧True)∧(∀(x_1:Int),none=b0o E x x_1)∧True)∧∀(x_1:Nat),x_1≤E.length∧m8 c x_1=true→(decide ((↑x_1:Int) < b)=true→((0:Int)≤(↑x_1:Int)∧(↑x_1:Int) < b)∧x_1 < E.length∧some (n7 [] (match i7 ((a.ann x).mem x_1) (0:Nat) with | some v=>v | none=>n7 (a.ann x).kill tbl))=some tbl∧((!q9 (b6 e0 E x_1) || (b6 e0 E x_1).k ==(3:Int) || (b6 e0 E x_1).k ==(4:Int) || (b6 e0 E x_1).en !=(-1:Int) || (b6 e0 E x_1).ix !=a1x (b0o E x_1 (b6 e0 E x_1).ag))=true→false=a7d E m.toNat)∧((!q9 (b6 e0 E x_1) || (b6 e0 E x_1).k ==(3:Int) || (b6 e0 E x_1).k ==(4:Int) || (b6 e0 E x_1).en !=(-1:Int) || (b6 e0 E x_1).ix !=a1x (b0o E x_1 (b6 e0 E x_1).ag))=false→(((rdE (b6 e0 E x_1) || wrE (b6 e0 E x_1)) && decide ((b6 e0 E x_1).ob ≥ m))=true→false=a7d E m.toNat)∧(((rdE (b6 e0 E x_1) || wrE (b6 e0 E x_1)) && decide ((b6 e0 E x_1).ob ≥ m))=false→∃(x_2:Nat),(x_2≤E.length∧m8 c x_2=true)∧(a.ann x).mu x_2 < (a.ann x).mu x_1∧(E.length=E.length∧m=m∧True∧True∧E.length=E.length∧b=b∧IntKind.i64.wrap ((↑x_1:Int) + (1:Int))=(↑x_2:Int)∧True)∧eqT∧eqA E.length (i6 E)∧(∀(x:Int),(bif x ==(b6 e0 E x_1).ag then some (IntKind.i64.wrap (a1x (b0o E x_1 (b6 e0 E x_1).ag) + (1:Int))) else b0o E x_1 x)=b0o E x_2 x)∧True)))∧(decide ((↑x_1:Int) < b)=false→true=a7d E m.toNat)):=by kernel_rfl
theorem v79 (E:List Ev) (m:Int) (h:L40 E.length∧0≤m):q79D E m:=by
 rw[d89]
 have hL:E.length≤1099511627776:=h.1
 have hm:(m.toNat:Int)=m:=z1q h.2
 simp only[eq_self,true_and,and_true,z0n,imp_self,l9,m6,n5,g7,g8,PLoop.of,q6,AV.len,g9,z0s,i9,j4,j5,l5,l6,l7,lVe]
 refine⟨(),⟨0,⟨by omega,rfl⟩,rfl,fun _=>rfl⟩,fun j hj=>⟨fun hlt=>?_,fun hlt=>?_⟩⟩
 ·have h1:j < E.length:=by have:=z0e hlt; omega
  have e:a6p E m.toNat j=(q9 (b6 e0 E j) && (b6 e0 E j).k != 3 && (b6 e0 E j).k != 4 && (b6 e0 E j).en == -1 && (b6 e0 E j).ix == a1y (b6 e0 E j).ag E j && !((rdE (b6 e0 E j) || wrE (b6 e0 E j)) && decide ((b6 e0 E j).ob ≥ (m.toNat:Int)))):=rfl
  rw[hm] at e
  simp only[d04]
  refine⟨⟨by omega,by omega⟩,h1,rfl,fun h2=>?_,fun h2=>⟨fun h3=>?_,fun h3=>⟨j + 1,⟨by omega,?_⟩,by omega,wrS (n:=E.length) h1 hL,fun x=>c4a (by omega) x⟩⟩⟩
  ·refine(a0r h1 ?_).symm
   rw[e]; grind
  ·refine(a0r h1 ?_).symm
   rw[e,h3]; simp
  ·simp only[m8,hj.2,z1h]
   rw[e,h3]; grind
 ·have h1:j=E.length:=by have:=z0i hlt; omega
  have:=hj.2
  rw[h1] at this
  exact this.symm
theorem n79 (nm:List (Option AV)):CallOk Tryz.prog GL 79 (o5 EL gbT nm [.lf .es,.lf .i] sVe):=a5j Tryz.func79 fo79 fun av pre rv h=>by
 unfold sVe at h; split at h <;> cases h
 exact⟨⟨rfl,fun t a e=>by cases e <;> exact z0h _ _⟩,fun hp=>⟨_,v79 _ _ (hp _ (.head _)),rfl,(m9 (n123 _) (m9 (a1o (n80 _)) (m9 (a1o (n81 _)) t9))),u4⟩⟩
def a2a (E:List Ev):Nat→Int
 | 0=>0
 | j + 1=>bif wrE (evA E j) then a2a E j + 1 else a2a E j
def a2u (L:List Int):Int→Option Int:=fun a=>bif L.contains a then some 1 else none
def v6 (M:List (List Int)):Nat→List Int
 | 0=>[]
 | o + 1=>v6 M o ++ x6 M o
def a0g (E:List Ev) (o:Int):List Int→List Int→Bool
 | _,[]=>true
 | L,x :: r=>decide (0≤x) && decide (x < E.length) && !L.contains x && wrE (evA E x) && (evA E x).ob == o && a0g E o (L ++ [x]) r
def a1m (E:List Ev) (M:List (List Int)):Nat→Bool
 | 0=>true
 | o + 1=>a1m E M o && a0g E o (v6 M o) (x6 M o)
def lV1 (E:List Ev) (R:List Int) (t c:Nat):LAnn where
 X:=Nat
 inv:=fun j=>j≤E.length∧m8 (a1n E R) j=true
 slots:=fun j=>[(t,.i .i64 (j:Int)),(c,.i .i64 (a2a E j))]
 mem:=fun _=>[]
 mu:=fun j=>E.length - j
 kill:=[]
def lV2 (E:List Ev) (M:List (List Int)) (t r:Nat):LAnn:=q6 M.length t (fun o=>a1m E M o=true) (fun o=>[(r,.mapi .i64 none (a2u (v6 M o)))]) []
def lV3 (E:List Ev) (M:List (List Int)) (t r:Nat):PLoop:=⟨Nat,fun o=>{ X:=Nat,inv:=fun q=>q≤(x6 M o).length∧o < M.length∧a0g E o (v6 M o) ((x6 M o).take q)=true,slots:=fun q=>[(t,.i .i64 (q:Int))],mem:=fun q=>[(r,.mapi .i64 none (a2u (v6 M o ++ (x6 M o).take q)))],mu:=fun q=>(x6 M o).length - q,kill:=[] }⟩
theorem b2m {L:List Int}:∀ {W:List Int},L.Nodup→(∀ x∈L,x∈W)→W.length≤L.length→∀ x∈W,x∈L:=by
 induction L with
 | nil=>intro W _ _ hl x hx; cases W with
  | nil=>cases hx
  | cons y r=>simp at hl
 | cons a L ih =>
  intro W hn hs hl x hx
  rw[z3o] at hn
  by_cases e:x=a
  ·subst e; exact z1l
  ·refine z0w _ (ih (W:=W.erase a) hn.2 (fun y hy=>?_) ?_ x ((List.mem_erase_of_ne e).2 hx))
   ·exact(List.mem_erase_of_ne (fun h:y=a=>hn.1 (by rw[← h]; exact hy))).2 (hs y (z0w _ hy))
   ·rw[List.length_erase_of_mem (hs a z1l)]
    simp at hl; omega
theorem a98 {L:List Int}:∀ {W:List Int},L.Nodup→(∀ x∈L,x∈W)→L.length≤W.length:=by
 induction L with
 | nil=>intro W _ _; simp
 | cons a L ih =>
  intro W hn hs
  rw[z3o] at hn
  have h1:=ih (W:=W.erase a) hn.2 (fun y hy=>(List.mem_erase_of_ne (fun h:y=a=>hn.1 (by rw[← h]; exact hy))).2 (hs y (z0w _ hy)))
  have h2:=hs a z1l
  rw[List.length_erase_of_mem h2] at h1
  have h3:0 < W.length:=List.length_pos_of_mem h2
  simp; omega
theorem c5q {W:List Int}:∀ {r:List Int},W.Nodup→(∀ x∈W,x∈r)→r.length≤W.length→r.Nodup:=by
 induction W with
 | nil=>intro r _ _ hl; cases r with
  | nil=>exact List.nodup_nil
  | cons y r=>simp at hl
 | cons a W ih =>
  intro r hn hs hl
  have hall:=b2m hn hs hl
  rw[z3o] at hn
  have ha:=hs a z1l
  have hlen:=List.length_erase_of_mem ha
  have hsub:∀ x∈W,x∈r.erase a:=fun x hx=>(List.mem_erase_of_ne (fun h:x=a=>hn.1 (by rw[← h]; exact hx))).2 (hs x (z0w _ hx))
  have hl2:(r.erase a).length≤W.length:=by simp at hl; omega
  have h1:=ih hn.2 hsub hl2
  have h2:=b2m hn.2 hsub hl2
  exact(List.perm_cons_erase ha).nodup_iff.2 (z3o.2 ⟨fun h=>hn.1 (h2 a h),h1⟩)
def wrL (E:List Ev):Nat→List Int
 | 0=>[]
 | j + 1=>bif wrE (evA E j) then wrL E j ++ [(j:Int)] else wrL E j
def wrO (E:List Ev) (o:Int):Nat→List Int
 | 0=>[]
 | j + 1=>bif a2r E o j then wrO E o j ++ [(j:Int)] else wrO E o j
theorem b2v {E:List Ev} {x:Int}:∀ {j:Nat},x∈wrL E j↔0≤x∧x < j∧wrE (evA E x)=true:=by
 intro j
 induction j with
 | zero=>simp[wrL]; omega
 | succ j ih =>
  simp only[wrL]
  cases h:wrE (evA E j)
  ·simp only[z0l,ih]
   constructor
   ·rintro ⟨a,b,c⟩; exact⟨a,by omega,c⟩
   ·rintro ⟨a,b,c⟩
    refine⟨a,?_,c⟩
    have:x≠j:=fun e=>by subst e; rw[h] at c; cases c
    omega
  ·simp only[z0f,z0o,z0r,ih]
   constructor
   ·rintro (⟨a,b,c⟩ | rfl)
    ·exact⟨a,by omega,c⟩
    ·exact⟨by omega,by omega,h⟩
   ·rintro ⟨a,b,c⟩
    by_cases e:x=j
    ·exact .inr e
    ·exact .inl ⟨a,by omega,c⟩
theorem c6k {E:List Ev}:∀ {j:Nat},(wrL E j).Nodup:=by
 intro j
 induction j with
 | zero=>simp[wrL]
 | succ j ih =>
  simp only[wrL]
  cases h:wrE (evA E j)
  ·exact ih
  ·simp only[z0f]
   rw[List.nodup_append]
   refine⟨ih,by simp,fun a ha b hb=>?_⟩
   have:=(b2v.1 ha).2.1
   simp at hb
   omega
theorem d3s {E:List Ev}:∀ {j:Nat},((wrL E j).length:Int)=a2a E j:=by
 intro j
 induction j with
 | zero=>rfl
 | succ j ih =>
  simp only[wrL,a2a]
  cases h:wrE (evA E j)
  ·exact ih
  ·simp only[z0f,z0x,z3f]; omega
theorem a4x {E:List Ev} {o x:Int}:∀ {j:Nat},x∈wrO E o j↔0≤x∧x < j∧a2r E o x=true:=by
 intro j
 induction j with
 | zero=>simp[wrO]; omega
 | succ j ih =>
  simp only[wrO]
  cases h:a2r E o j
  ·simp only[z0l,ih]
   constructor
   ·rintro ⟨a,b,c⟩; exact⟨a,by omega,c⟩
   ·rintro ⟨a,b,c⟩
    refine⟨a,?_,c⟩
    have:x≠j:=fun e=>by subst e; rw[h] at c; cases c
    omega
  ·simp only[z0f,z0o,z0r,ih]
   constructor
   ·rintro (⟨a,b,c⟩ | rfl)
    ·exact⟨a,by omega,c⟩
    ·exact⟨by omega,by omega,h⟩
   ·rintro ⟨a,b,c⟩
    by_cases e:x=j
    ·exact .inr e
    ·exact .inl ⟨a,by omega,c⟩
theorem b1i {E:List Ev} {o:Int}:∀ {j:Nat},(wrO E o j).Nodup:=by
 intro j
 induction j with
 | zero=>simp[wrO]
 | succ j ih =>
  simp only[wrO]
  cases h:a2r E o j
  ·exact ih
  ·simp only[z0f]
   rw[List.nodup_append]
   refine⟨ih,by simp,fun a ha b hb=>?_⟩
   have:=(a4x.1 ha).2.1
   simp at hb
   omega
theorem d3t {E:List Ev} {o:Int}:∀ {j:Nat},((wrO E o j).length:Int)=a66 E o j:=by
 intro j
 induction j with
 | zero=>rfl
 | succ j ih =>
  simp only[wrO,a66]
  cases h:a2r E o j
  ·exact ih
  ·simp only[z0f,z0x,z3f]; omega
theorem c86 {x:Int}:∀ {l:List Int} {i:Int},0≤i→(a8p x l i < 0↔x ∉ l):=by
 intro l
 induction l with
 | nil=>intro i _; simp[a8p]
 | cons y r ih =>
  intro i hi
  simp only[a8p]
  cases h:y == x
  ·have h2:x≠y:=by
              have:y≠x:=by simpa using h
              exact fun e=>this e.symm
   rw[z0l,ih (by omega)]
   simp[h2]
  ·have h2:y=x:=by simpa using h
   subst h2
   simp; omega
theorem a88 {x:Int} {l:List Int}:y6 l x < 0↔x ∉ l:=c86 (Int.le_refl 0)
theorem a90 {M:List (List Int)} {x:Int}:∀ {m:Nat},x∈v6 M m↔∃ o:Nat,o < m∧x∈x6 M o:=by
 intro m
 induction m with
 | zero=>simp[v6]
 | succ m ih =>
  simp only[v6,z0o,ih]
  constructor
  ·rintro (⟨o,h1,h2⟩ | h)
   ·exact⟨o,by omega,h2⟩
   ·exact⟨m,by omega,h⟩
  ·rintro ⟨o,h1,h2⟩
   by_cases e:o=m
   ·subst e; exact .inr h2
   ·exact .inl ⟨o,by omega,h2⟩
theorem a2f {E:List Ev} {o:Int}:∀ {r L:List Int},a0g E o L r=true↔(∀ x∈r,(0≤x∧x < E.length)∧x ∉ L∧wrE (evA E x)=true∧(evA E x).ob=o)∧r.Nodup:=by
 intro r
 induction r with
 | nil=>intro L; simp[a0g]
 | cons x r ih =>
  intro L
  simp only[a0g,z0d,z1i,z0v,beq_iff_eq,ih,z3o,z0t,z0o,List.contains_eq_mem,z1g]
  constructor
  ·rintro ⟨⟨⟨⟨⟨h1,h2⟩,h3⟩,h4⟩,h5⟩,h6,h7⟩
   refine⟨fun y hy=>?_,?_,h7⟩
   ·rcases hy with rfl | hy
    ·exact⟨⟨h1,h2⟩,h3,h4,h5⟩
    ·obtain⟨a,b,c⟩:=h6 y hy
     exact⟨a,fun h=>b (.inl h),c⟩
   ·intro hx
    exact(h6 x hx).2.1 (.inr (by simp))
  ·rintro ⟨h1,h2,h3⟩
   obtain⟨a,b,c,d⟩:=h1 x (.inl rfl)
   refine⟨⟨⟨⟨⟨a.1,a.2⟩,b⟩,c⟩,d⟩,fun y hy=>?_,h3⟩
   obtain⟨a',b',c',d'⟩:=h1 y (.inr hy)
   refine⟨a',fun h=>?_,c',d'⟩
   rcases h with h | h
   ·exact b' h
   ·simp at h; subst h; exact h2 hy
theorem a4w {E:List Ev} {M:List (List Int)}:∀ {m:Nat},a1m E M m=true↔∀ o:Nat,o < m→a0g E o (v6 M o) (x6 M o)=true:=by
 intro m
 induction m with
 | zero=>simp[a1m]
 | succ m ih =>
  simp only[a1m,z0d,ih]
  constructor
  ·rintro ⟨h1,h2⟩ o ho
   by_cases e:o=m
   ·subst e; exact h2
   ·exact h1 o (by omega)
  ·intro h
   exact⟨fun o ho=>h o (by omega),h m (by omega)⟩
theorem a91 {E:List Ev} {M:List (List Int)}:∀ {m:Nat},(∀ o:Nat,o < m→a0g E o (v6 M o) (x6 M o)=true)→(v6 M m).Nodup∧∀ x∈v6 M m,x∈wrL E E.length:=by
 intro m
 induction m with
 | zero=>intro _; simp[v6]
 | succ m ih =>
  intro h
  obtain⟨h1,h2⟩:=ih fun o ho=>h o (by omega)
  obtain⟨h3,h4⟩:=a2f.1 (h m (by omega))
  refine⟨?_,fun x hx=>?_⟩
  ·simp only[v6]
   rw[List.nodup_append]
   exact⟨h1,h4,fun a ha b hb e=>(h3 b hb).2.1 (e ▸ ha)⟩
  ·simp only[v6,z0o] at hx
   rcases hx with hx | hx
   ·exact h2 x hx
   ·obtain⟨a,b,c,d⟩:=h3 x hx
    exact b2v.2 ⟨a.1,a.2,c⟩
theorem a2i {E:List Ev} {o x:Int}:a2r E o x=true↔wrE (evA E x)=true∧(evA E x).ob=o:=by simp[a2r]
theorem c4q {E:List Ev} {M:List (List Int)} {o x:Int}:a8l E M o x=true↔(a2r E o x=true→x∈x6 M o):=by
 simp only[a8l,z0v,Bool.and_eq_false_iff,z1g]
 constructor
 ·rintro (h | h) hw
  ·rw[h] at hw; cases hw
  ·exact Classical.byContradiction fun hn=>h (a88.2 hn)
 ·intro h
  cases hw:a2r E o x
  ·exact .inl rfl
  ·exact .inr fun hn=>a88.1 hn (h hw)
theorem a89 {E:List Ev} {M:List (List Int)} {o:Int}:a4r E M o=true↔(∀ x∈wrO E o E.length,x∈x6 M o)∧(x6 M o).length=(wrO E o E.length).length:=by
 simp only[a4r,z0d,beq_iff_eq,a02,c4q,← d3t]
 refine and_congr ⟨fun h x hx=>?_,fun h j hj hw=>h _ (a4x.2 ⟨by omega,by omega,hw⟩)⟩ (by omega)
 obtain⟨a,b,c⟩:=a4x.1 hx
 have:=h x.toNat (by omega)
 rw[z1q a] at this
 exact this c
theorem b8d {E:List Ev} {M:List (List Int)} (hl:∀ j:Int,0≤j→j < E.length→wrE (evA E j)=true→0≤(evA E j).ob∧(evA E j).ob < M.length):(a1m E M M.length && (((v6 M M.length).length:Int) == a2a E E.length))=m8 (a4r E M) M.length:=by
 rw[z3b,z0d,beq_iff_eq,a4w,a02,← d3s]
 constructor
 ·rintro ⟨h1,h2⟩ o ho
  obtain⟨n1,n2⟩:=a91 h1
  have hall:=b2m n1 n2 (by omega)
  obtain⟨g1,g2⟩:=a2f.1 (h1 o ho)
  have hin:∀ x∈wrO E o E.length,x∈x6 M o:=fun x hx=>by
   obtain⟨a,b,c⟩:=a4x.1 hx
   obtain⟨c1,c2⟩:=a2i.1 c
   obtain⟨o',ho',hx'⟩:=a90.1 (hall x (b2v.2 ⟨a,b,c1⟩))
   have:=((a2f.1 (h1 o' ho')).1 x hx').2.2.2
   have e:o'=o:=by omega
   rw[e] at hx'
   exact hx'
  refine a89.2 ⟨hin,?_⟩
  have p1:=a98 (b1i (E:=E) (o:=o) (j:=E.length)) hin
  have p2:=a98 g2 (fun x hx=>a4x.2 ⟨(g1 x hx).1.1,(g1 x hx).1.2,a2i.2 (g1 x hx).2.2⟩)
  omega
 ·intro h
  have key:∀ o:Nat,o < M.length→(x6 M o).Nodup∧∀ x∈x6 M o,x∈wrO E o E.length:=fun o ho=>by
   obtain⟨h1,h2⟩:=a89.1 (h o ho)
   exact⟨c5q b1i h1 (by omega),b2m b1i h1 (by omega)⟩
  have hg:∀ o:Nat,o < M.length→a0g E o (v6 M o) (x6 M o)=true:=fun o ho=>by
   obtain⟨k1,k2⟩:=key o ho
   refine a2f.2 ⟨fun x hx=>?_,k1⟩
   obtain⟨a,b,c⟩:=a4x.1 (k2 x hx)
   refine⟨⟨a,b⟩,fun hf=>?_,a2i.1 c⟩
   obtain⟨o',ho',hx'⟩:=a90.1 hf
   obtain⟨_,_,c'⟩:=a4x.1 ((key o' (by omega)).2 x hx')
   have e1:=(a2i.1 c).2
   have e2:=(a2i.1 c').2
   omega
  refine⟨hg,?_⟩
  obtain⟨n1,n2⟩:=a91 hg
  have p1:=a98 n1 n2
  have p2:=a98 (c6k (E:=E) (j:=E.length)) (W:=v6 M M.length) (fun x hx=>by
   obtain⟨a,b,c⟩:=b2v.1 hx
   obtain⟨o1,o2⟩:=hl x a b c
   refine a90.2 ⟨(evA E x).ob.toNat,by omega,?_⟩
   refine(a89.1 (h (evA E x).ob.toNat (by omega))).1 x (a4x.2 ⟨a,b,a2i.2 ⟨c,by omega⟩⟩))
  omega
theorem c6a {L:List Int} (h:L.Nodup):b38 (a2u L)=L.length:=b8r h fun a=>by
 simp only[a2u,List.contains_eq_mem]
 by_cases ha:a∈L <;> simp[ha]
theorem d0k (E:List Ev):∀ j,0≤a2a E j∧a2a E j≤j:=by
 intro j
 induction j with
 | zero=>simp[a2a]
 | succ j ih=>simp only[a2a]; cases wrE (evA E j) <;> simp <;> omega
theorem c3k {E:List Ev} {m:Nat} (a4:a7d E m=true):∀ i:Int,0≤i→i < E.length→wrE (evA E i)=true→0≤(evA E i).ob∧(evA E i).ob < m:=fun i h0 h1 hw=>by
 have h:a6p E m i=true:=by
  have:=a02.1 a4 i.toNat (by omega)
  rwa [z1q h0] at this
 simp only[a6p,z0d,hw,Bool.or_true,z1h,z0v,z1g] at h
 have hv:=h.1.1.1.1.1
 simp only[q9,z0d] at hv
 have ho:a1u (evA E i)=true:=hv.1.1.1.1.1.1.1.1.2
 have hk:(evA E i).k=2∨(evA E i).k=5:=by simpa [wrE] using hw
 refine⟨?_,by omega⟩
 rcases hk with hk | hk <;> simp[a1u,hk,v5] at ho <;> omega
theorem b8b {E:List Ev} {o x:Int}:∀ {r L:List Int},a0g E o L (r ++ [x])=(a0g E o L r && (decide (0≤x) && decide (x < E.length) && !(L ++ r).contains x && wrE (evA E x) && (evA E x).ob == o)):=by
 intro r
 induction r with
 | nil=>intro L; simp[a0g]
 | cons y r ih =>
  intro L
  simp only[List.cons_append,a0g,ih,z1z,List.singleton_append,Bool.and_assoc,List.nil_append]
theorem b8c {E:List Ev} {o:Int} {L r:List Int} (h:a0g E o L r=true) (q:Nat):a0g E o L (r.take q)=true:=by
 obtain⟨h1,h2⟩:=a2f.1 h
 exact a2f.2 ⟨fun x hx=>h1 x (List.mem_of_mem_take hx),h2.sublist (List.take_sublist _ _)⟩
theorem c0x (L:List Int) (a:Int):(a1x (a2u L a) != 0)=L.contains a:=by
 unfold a2u
 cases L.contains a <;> rfl
theorem b6r (L:List Int) (x a:Int):(bif a == x then some 1 else a2u L a)=a2u (L ++ [x]) a:=by
 unfold a2u
 cases h:a == x
 ·have h2:a≠x:=by simpa using h
  have:(L ++ [x]).contains a=L.contains a:=by
   rw[z3b]; simp[h2]
  rw[this,z0l]
 ·have h2:a=x:=by simpa using h
  have:(L ++ [x]).contains a=true:=by simp[h2]
  rw[this]; rfl
theorem b6x {l:List Int} {q:Nat} (h:q < l.length):l.take (q + 1)=l.take q ++ [b6 0 l q]:=by
 rw[List.take_succ_eq_append_getElem h,o6 0 l q h]
theorem d1q {E:List Ev} {M:List (List Int)} {o q:Nat} (ho:o < M.length) (hl:∀ j:Int,0≤j→j < E.length→wrE (evA E j)=true→0≤(evA E j).ob∧(evA E j).ob < M.length) (h:a0g E o (v6 M o) ((x6 M o).take q)=false):m8 (a4r E M) M.length=false:=by
 rw[← b8d hl]
 have:a1m E M M.length=false:=by
  cases hr:a1m E M M.length
  ·rfl
  ·have:=b8c (a4w.1 hr o ho) q
   rw[h] at this; cases this
 rw[this]; rfl
end Go.Proofs.YtaeeaniofljmnaaGreatDoor
