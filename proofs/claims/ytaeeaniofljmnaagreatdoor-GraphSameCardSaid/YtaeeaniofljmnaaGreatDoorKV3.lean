/-
  A part of the proof (KV3).
-/
import Derived.Test.YtaeeaniofljmnaaGreatDoorK18
namespace Go.Proofs.YtaeeaniofljmnaaGreatDoor
set_option linter.unusedSimpArgs false
set_option linter.unusedVariables false
open Go Go.Proofs.YtaeeaniofljmnaaGreatDoor.Sx
set_option maxRecDepth 100000
def a2w (E:List Ev) (o:Int) (j:Int):Bool:=wrE (evA E j) && (evA E j).ob == o
def a6e (E:List Ev) (o:Int):Nat→Int
 | 0=>0
 | j + 1=>bif a2w E o j then a6e E o j + 1 else a6e E o j
theorem d1t (E:List Ev) (o:Int):∀ j,0≤a6e E o j∧a6e E o j≤j:=by
 intro j
 induction j with
 | zero=>simp[a6e]
 | succ j ih=>simp only[a6e]; cases a2w E o j <;> simp <;> omega
def a91 (E:List Ev) (M:List (List Int)) (o:Int) (j:Int):Bool:=!(a2w E o j && decide (w9 (x8 M o) j < 0))
def a4y (E:List Ev) (M:List (List Int)) (o:Int):Bool:=j8 (a91 E M o) E.length && ((x8 M o).length:Int) == a6e E o E.length
def b8 (E:List Ev) (R:List Int) (M:List (List Int)):Bool:=
 decide (E.length≤64) && decide (R.length=E.length) && decide (M.length≤8) && a7m E M.length && j8 (a20 E R) E.length && j8 (a4y E M) M.length
def SzG (E:List Ev) (M:List (List Int)):Prop:=L40 E.length∧(M.length≤8→∀ r∈M,L40 r.length)
def c77:SpG:=fun
 | [.ag [.es E,.is R,.rs M]]=>some ([SzG E M],.rv (.pl (.b (b8 E R M))))
 | _=>none
def b8g (nm:List (Option AV)):Nat × (List MBlk→List SV→Option AR):=(34,q6 EL none nm [PG] c77)
def c62 (E:List Ev) (M:List (List Int)) (t c:Nat):PLoop:=⟨Nat,fun o=>{ X:=Nat,inv:=fun j=>j≤E.length∧o < M.length∧j8 (a91 E M o) j=true,slots:=fun j=>[(t,.i .i64 (j:Int)),(c,.i .i64 (a6e E o j))],mem:=fun _=>[],mu:=fun j=>E.length - j,kill:=[] }⟩
theorem fo34:s5 Tryz.prog 34:=⟨Tryz.f34,Tryz.func34,by kernel_rfl,by kernel_rfl⟩
def q34D (E:List Ev) (R:List Int) (M:List (List Int)):Prop:=s4 (({ calls:=[kLsd (nmG E R M),kSrc (nmG E R M),kE1 84 wrE,c5w 66 []],loops:=[(0,.of (lAl (a20 E R) E.length 3)),(2,.of (lAl (a4y E M) M.length 4)),(4,c62 E M 6 5)] }:Kit)).tab Tryz.f34 [grV E R M] (grM E R M) (m4 (.b (b8 E R M)))
theorem d8p (E:List Ev) (R:List Int) (M:List (List Int)):q34D E R M=(
 let a:=decide ((↑E.length:Int) > (64:Int)) || (↑R.length:Int) !=(↑E.length:Int) || decide ((↑M.length:Int) > (8:Int))
 let b:=decide ((↑E.length:Int) > (64:Int)) || (↑R.length:Int) !=(↑E.length:Int)
 let c:=(↑E.length:Int)
 let d:=E.length=E.length∧R.length=R.length∧M.length=M.length
 let e:=c > (64:Int)
 let f:=(↑M.length:Int)
 let g:=decide e || (↑R.length:Int) !=c || decide (f > (8:Int)) || !a7m E M.length
 let h:=c62 E M (6:Nat) (5:Nat)
 let j:=(0:Int)
 let k:=PLoop.of (lAl (a20 E R) E.length (3:Nat))
 let l:=PLoop.of (lAl (a4y E M) M.length (4:Nat))
 (a=false→E.length=E.length)∧(a=false→R.length=R.length)∧(a=false→M.length=M.length)∧(a=false→nE E)∧(a=false→nI R)∧(a=false→nR M)∧(a=false→E.length≤(1099511627776:Nat))∧(g=true→false=b8 E R M)∧(g=false→∃(x:PUnit),(∃(x:Nat),(x≤E.length∧j8 (a20 E R) x=true)∧(j=(↑x:Int)∧True)∧True)∧∀(x_1:Nat),x_1≤E.length∧j8 (a20 E R) x_1=true→(decide ((↑x_1:Int) < c)=true→E.length=E.length∧R.length=R.length∧M.length=M.length∧nE E∧nI R∧nR M∧((j≤(↑x_1:Int)∧(↑x_1:Int) < c)∧R.length=E.length)∧((!a20 E R (↑x_1:Int))=true→false=b8 E R M)∧((!a20 E R (↑x_1:Int))=false→∃(x_2:Nat),(x_2≤E.length∧j8 (a20 E R) x_2=true)∧(k.ann x).mu x_2 < (k.ann x).mu x_1∧(d∧True∧IntKind.i64.wrap ((↑x_1:Int) + (1:Int))=(↑x_2:Int)∧True∧E.length=E.length∧c=c∧decide e=decide e∧decide e=decide e∧b=b∧b=b∧a=a∧a=a∧false=false∧True)∧eqA E.length (i6 E)∧eqA R.length (e8 R)∧eqA M.length (i4 M)∧d∧True))∧(decide ((↑x_1:Int) < c)=false→∃(x:PUnit),(∃(x:Nat),(x≤M.length∧j8 (a4y E M) x=true)∧(j=(↑x:Int)∧True)∧True)∧∀(x_2:Nat),x_2≤M.length∧j8 (a4y E M) x_2=true→(decide ((↑x_2:Int) < f)=true→∃(x_3:Nat),(∃(x:Nat),(x≤E.length∧x_3 < M.length∧j8 (a91 E M (↑x_3:Int)) x=true)∧(j=(↑x:Int)∧j=a6e E (↑x_3:Int) x∧True)∧True)∧∀(x_4:Nat),x_4≤E.length∧x_3 < M.length∧j8 (a91 E M (↑x_3:Int)) x_4=true→(decide ((↑x_4:Int) < c)=true→(j≤(↑x_4:Int)∧(↑x_4:Int) < c)∧x_4 < E.length∧(wrE (b7 e0 E x_4)=true→j≤(↑x_4:Int)∧(↑x_4:Int) < c)∧(wrE (b7 e0 E x_4)=true→x_4 < E.length)∧((wrE (b7 e0 E x_4) && (b7 e0 E x_4).ob ==(↑x_2:Int))=true→(j≤(↑x_2:Int)∧(↑x_2:Int) < f)∧x_2
 < M.length∧(b7 [] M x_2).length=(b7 [] M x_2).length∧(mkN (fun(i:Nat)=>b7 j (b7 [] M x_2) i) (b7 [] M x_2).length).length≤(1099511627776:Nat)∧(decide (w9 (mkN (fun(i:Nat)=>b7 j (b7 [] M x_2) i) (b7 [] M x_2).length) (↑x_4:Int) < j)=true→false=b8 E R M)∧(decide (w9 (mkN (fun(i:Nat)=>b7 j (b7 [] M x_2) i) (b7 [] M x_2).length) (↑x_4:Int) < j)=false→∃(x:Nat),(x≤E.length∧x_3 < M.length∧j8 (a91 E M (↑x_3:Int)) x=true)∧(h.ann x_3).mu x < (h.ann x_3).mu x_4∧(d∧True∧(↑x_1:Int)=(↑x_1:Int)∧(↑x_2:Int)=(↑x_2:Int)∧IntKind.i64.wrap (a6e E (↑x_3:Int) x_4 + (1:Int))=a6e E (↑x_3:Int) x∧IntKind.i64.wrap ((↑x_4:Int) + (1:Int))=(↑x:Int)∧True∧E.length=E.length∧c=c∧decide e=decide e∧decide e=decide e∧b=b∧b=b∧a=a∧a=a∧false=false∧(↑x_1:Int)=(↑x_1:Int)∧True∧E.length=E.length∧c=c∧false=false∧(↑x_2:Int)=(↑x_2:Int)∧True∧M.length=M.length∧f=f∧true=true∧True)∧eqA E.length (i6 E)∧eqA R.length (e8 R)∧eqA M.length (i4 M)∧d∧True))∧((wrE (b7 e0 E x_4) && (b7 e0 E x_4).ob ==(↑x_2:Int))=false→∃(x:Nat),(x≤E.length∧x_3 < M.length∧j8 (a91 E M (↑x_3:Int)) x=true)∧(h.ann x_3).mu x < (h.ann x_3).mu x_4∧(d∧True∧(↑x_1:Int)=(↑x_1:Int)∧(↑x_2:Int)=(↑x_2:Int)∧a6e E (↑x_3:Int) x_4=a6e E (↑x_3:Int) x∧IntKind.i64.wrap ((↑x_4:Int) + (1:Int))=(↑x:Int)∧True∧E.length=E.length∧c=c∧decide e=decide e∧decide e=decide e∧b=b∧b=b∧a=a∧a=a∧false=false∧(↑x_1:Int)=(↑x_1:Int)∧True∧E.length=E.length∧c=c∧false=false∧(↑x_2:Int)=(↑x_2:Int)∧True∧M.length=M.length∧f=f∧true=true∧True)∧eqA E.length (i6 E)∧eqA R.length (e8 R)∧eqA M.length (i4
 M)∧d∧True))∧(decide ((↑x_4:Int) < c)=false→(j≤(↑x_2:Int)∧(↑x_2:Int) < f)∧x_2 < M.length∧(((↑(b7 [] M x_2).length:Int) !=a6e E (↑x_3:Int) x_4)=true→false=b8 E R M)∧(((↑(b7 [] M x_2).length:Int) !=a6e E (↑x_3:Int) x_4)=false→∃(x_5:Nat),(x_5≤M.length∧j8 (a4y E M) x_5=true)∧(l.ann x).mu x_5 < (l.ann x).mu x_2∧(d∧True∧(↑x_1:Int)=(↑x_1:Int)∧IntKind.i64.wrap ((↑x_2:Int) + (1:Int))=(↑x_5:Int)∧True∧E.length=E.length∧c=c∧decide e=decide e∧decide e=decide e∧b=b∧b=b∧a=a∧a=a∧false=false∧(↑x_1:Int)=(↑x_1:Int)∧True∧E.length=E.length∧c=c∧false=false∧True)∧eqA E.length (i6 E)∧eqA R.length (e8 R)∧eqA M.length (i4 M)∧d∧True)))∧(decide ((↑x_2:Int) < f)=false→true=b8 E R M)))):=by kernel_rfl
theorem v34 (E:List Ev) (R:List Int) (M:List (List Int)) (h:SzG E M):q34D E R M:=by
 rw[d8p]
 have hL:E.length≤1099511627776:=h.1
 have hrow:M.length≤8→∀ o,o < M.length→(b7 [] M o).length≤1099511627776:=fun h8 o ho=>h.2 h8 _ (by rw[m7 [] M _ ho]; exact z1v ho)
 simp only[eq_self,true_and,and_true,z0o,imp_self,o6,o8,p7,i7,i9,PLoop.of,s8,AV.len,j4,z0u,l4,l5,l6,m8,m9,n5,lAl,c62]
 refine⟨fun _=>hL,fun h1=>?_,fun h1=>?_⟩
 ·cases hv:b8 E R M with
  | false=>rfl
  | true =>
   exfalso
   simp only[b8,z0d,z1m] at hv
   obtain⟨⟨⟨⟨⟨a1,a2⟩,a3⟩,a4⟩,a5⟩,a6⟩:=hv
   simp[a4,a2] at h1
   omega
 have hh:E.length≤64∧R.length=E.length∧M.length≤8∧a7m E M.length=true:=by
  simp at h1
  refine⟨?_,?_,?_,?_⟩ <;> first | omega | exact h1.2
 obtain⟨a1,a2,a3,a4⟩:=hh
 have hrow:=hrow a3
 have hv:b8 E R M=(j8 (a20 E R) E.length && j8 (a4y E M) M.length):=by simp[b8,a1,a2,a3,a4]
 refine⟨(),⟨0,⟨by omega,rfl⟩,rfl⟩,fun i hi=>⟨fun hlt=>?_,fun hlt=>?_⟩⟩
 ·have hi2:i < E.length:=by have:=z0e hlt; omega
  refine⟨⟨⟨by omega,by omega⟩,a2⟩,fun hs=>?_,fun hs=>⟨i + 1,⟨by omega,?_⟩,by omega,wrS (n:=E.length) hi2 hL⟩⟩
  ·rw[hv,a06 (j:=i) hi2 (by simpa using hs)]; rfl
  ·simp only[j8,hi.2,z0y]; simpa using hs
 have hi2:i=E.length:=by have:=z0i hlt; omega
 have hsrc:j8 (a20 E R) E.length=true:=by have:=hi.2; rwa [hi2] at this
 rw[hv,hsrc,z0y]
 refine⟨(),⟨0,⟨by omega,rfl⟩,rfl⟩,fun o ho=>⟨fun hlo=>?_,fun hlo=>?_⟩⟩
 ·have ho2:o < M.length:=by have:=z0e hlo; omega
  refine⟨o,⟨0,⟨by omega,ho2,rfl⟩,rfl,rfl⟩,fun j hj=>⟨fun hlj=>?_,fun hlj=>?_⟩⟩
  ·have hj2:j < E.length:=by have:=z0e hlj; omega
   have e:a91 E M o j = !((wrE (b7 e0 E j) && (b7 e0 E j).ob == o) && decide (w9 (b7 [] M o) j < 0)):=rfl
   have ew:a2w E o j=(wrE (b7 e0 E j) && (b7 e0 E j).ob == o):=rfl
   have hc:=d1t E o j
   have hw1:=wrS (n:=E.length) hj2 hL
   refine⟨⟨by omega,by omega⟩,hj2,fun _=>⟨by omega,by omega⟩,fun _=>hj2,fun hw=>⟨⟨by omega,by omega⟩,ho2,hrow o ho2,fun hp=>?_,fun hp=>⟨j + 1,⟨by omega,ho2,?_⟩,by omega,?_,hw1⟩⟩,fun hw=>⟨j + 1,⟨by omega,ho2,?_⟩,by omega,?_,hw1⟩⟩
   ·refine(a06 ho2 ?_).symm
    rw[a4y,a06 (j:=j) hj2 (by rw[e,hw,hp]; rfl)]; rfl
   ·simp only[j8,hj.2.2,z0y]; rw[e,hp]; simp
   ·simp only[a6e]; rw[ew,hw,z0f]; exact a4x (by omega) (by omega)
   ·simp only[j8,hj.2.2,z0y]; rw[e,hw]; rfl
   ·simp only[a6e]; rw[ew,hw,z0l]
  ·have hj2:j=E.length:=by have:=z0i hlj; omega
   have hall:j8 (a91 E M o) E.length=true:=by have:=hj.2.2; rwa [hj2] at this
   have e:a4y E M o=(((b7 [] M o).length:Int) == a6e E o E.length):=by rw[a4y,hall,z0y]; rfl
   rw[hj2]
   refine⟨⟨by omega,by omega⟩,ho2,fun hc=>?_,fun hc=>⟨o + 1,⟨by omega,?_⟩,by omega,wrS (n:=M.length) ho2 (by omega)⟩⟩
   ·refine(a06 ho2 ?_).symm
    rw[e]; simpa using hc
   ·simp only[j8,ho.2,z0y]; rw[e]; simpa using hc
 ·have ho2:o=M.length:=by have:=z0i hlo; omega
  have:=ho.2
  rw[ho2] at this
  exact this.symm
theorem n34 (nm:List (Option AV)):CallOk Tryz.prog [] 34 (q6 EL none nm [PG] c77):=z4 Tryz.func34 fo34 fun av pre rv h=>by
 unfold c77 at h; split at h <;> cases h
 exact⟨⟨rfl,fun t a e=>by cases e <;> exact z0h _ _⟩,fun hp=>⟨_,v34 _ _ _ (hp _ (.head _)),rfl,(o5 (n82 _) (o5 (n83 _) (o5 (n84 _) (o5 (n66 _) v4)))),v5⟩⟩
def relE (err N:Int):Nat→SV:=fun n=>.tup [b5d N n,.i .i64 err]
def b5e (v:Bool) (N:Int) (l:List Pq):QV:=.rv (.sl (relE (bif v then 0 else 1) (bif v then N else 0)) (.ps (n6 v l)))
def d7n:SpG:=fun
 | [.ag [.es E,.is R,.rs M],.st s]=>some ([SzG E M∧L40 s.size],b5e (b8 E R M) E.length (b9 E.length (l9 s E R M)))
 | _=>none
def kNam (nm:List (Option AV)):Nat × (List MBlk→List SV→Option AR):=(50,q6 EL none nm [PG,.st] d7n)
theorem a0g {E:List Ev} {R:List Int} {M:List (List Int)} (hv:b8 E R M=true) (hs:SzG E M):GOk E R M∧E.length≤64:=by
 simp only[b8,z0d,z1m] at hv
 obtain⟨⟨⟨⟨⟨a1,a2⟩,a3⟩,a4⟩,a5⟩,a6⟩:=hv
 have hev:∀ i:Int,0≤i→i < E.length→a6f E M.length i=true:=fun i h0 h1=>by
  have:=x4.1 a4 i.toNat (by omega)
  rwa [z1a h0] at this
 have hsr:∀ i:Int,0≤i→i < E.length→a20 E R i=true:=fun i h0 h1=>by
  have:=x4.1 a5 i.toNat (by omega)
  rwa [z1a h0] at this
 have hin:∀ j:Int,0≤j→j < E.length→inA R j < E.length∧(rdE (evA E j)=true→inA R j = -1∨(0≤inA R j∧inA R j < E.length)):=fun j h0 h1=>by
  have h:=hsr j h0 h1
  unfold a20 at h
  cases hr:rdE (evA E j)
  ·rw[hr] at h
   simp at h
   exact⟨by omega,fun h=>by cases h⟩
  ·rw[hr] at h
   by_cases hb:inA R j < 0∨inA R j ≥ E.length
   ·have e:(decide (inA R j < 0) || decide (inA R j ≥ E.length))=true:=by simpa using hb
    simp only[z3j,z0l,e,z0f,beq_iff_eq] at h
    exact⟨by omega,fun _=>.inl h⟩
   ·exact⟨by omega,fun _=>.inr ⟨by omega,by omega⟩⟩
 refine⟨⟨⟨hs.2 a3,fun i h0 h1 hw=>?_⟩,⟨a2,fun j h0 h1=>(hin j h0 h1).1⟩,hs.1,fun j h0 h1=>(hin j h0 h1).2⟩,a1⟩
 have h:=hev i h0 h1
 simp only[a6f,z0d,hw,Bool.or_true,z0y,z0v,z1k] at h
 have hv:=h.1.1.1.1.1
 simp only[t4,z0d] at hv
 have ho:a26 (evA E i)=true:=hv.1.1.1.1.1.1.1.1.2
 have hk:(evA E i).k=2∨(evA E i).k=5:=by simpa [wrE] using hw
 refine⟨?_,by omega⟩
 rcases hk with hk | hk <;> simp[a26,hk,w6] at ho <;> omega
theorem fo50:s5 Tryz.prog 50:=⟨Tryz.f50,Tryz.func50,by kernel_rfl,by kernel_rfl⟩
def q50D (E:List Ev) (R:List Int) (M:List (List Int)) (s:ByteArray):Prop:=s4 (({ calls:=[b8g (nmG E R M),kUni (nmG E R M)] }:Kit)).tab Tryz.f50 [grV E R M,.v (.string s)] (grM E R M) ((b5e (b8 E R M) E.length (b9 E.length (l9 s E R M))).post EL)
theorem d8y (E:List Ev) (R:List Int) (M:List (List Int)) (s:ByteArray):q50D E R M s=(
 let a:=b9 (↑E.length:Int) (l9 s E R M)
 let b:=AV.ps (n6 (b8 E R M) a)
 let c:=(↑E.length:Int)
 let d:=(0:Int)
 let e:=(1099511627776:Nat)
 E.length=E.length∧R.length=R.length∧M.length=M.length∧nE E∧nI R∧nR M∧(E.length≤e∧(M.length≤(8:Nat)→∀(r:List Int),List.Mem r M→r.length≤e))∧((!b8 E R M)=true→b.len=(0:Nat)∧((d=bif b8 E R M then c else d)∧b.len=(0:Nat)∧True)∧((1:Int)=bif b8 E R M then d else(1:Int))∧True)∧((!b8 E R M)=false→E.length=E.length∧R.length=R.length∧M.length=M.length∧nE E∧nI R∧nR M∧((((∀(r:List Int),List.Mem r M→r.length≤e)∧∀(i:Int),d≤i→i < c→wrE (evA E i)=true→d≤(evA E i).ob∧(evA E i).ob < (↑M.length:Int))∧(R.length=E.length∧∀(j:Int),d≤j→j < c→inA R j < c)∧E.length≤e∧∀(j:Int),d≤j→j < c→rdE (evA E j)=true→inA R j=(-1:Int)∨d≤inA R j∧inA R j < c)∧E.length≤(64:Nat)∧s.size≤e)∧(AV.ps a).len=b.len∧((∀(j:Nat),j < b.len→(b7 (d,d) a j).fst=(b7 (d,d) (n6 (b8 E R M) a) j).fst)∧(∀(j:Nat),j < b.len→(b7 (d,d) a j).snd=(b7 (d,d) (n6 (b8 E R M) a) j).snd)∧True)∧((c=bif b8 E R M then c else d)∧(AV.ps a).len=b.len∧True)∧(d=bif b8 E R M then d else(1:Int))∧True)):=by kernel_rfl
theorem v50 (E:List Ev) (R:List Int) (M:List (List Int)) (s:ByteArray) (h:SzG E M∧L40 s.size):q50D E R M s:=by
 rw[d8y]
 cases hv:b8 E R M
 ·simp only[eq_self,true_and,and_true,z0o,imp_self,o6,o8,p7,i7,i9,PLoop.of,s8,AV.len,j4,z0u,l4,l5,l6,m8,m9,n5,n6,z0l,z2z]
  exact⟨⟨h.1.1,h.1.2⟩,by simp⟩
 ·obtain⟨hG,hN⟩:=a0g hv h.1
  simp only[eq_self,true_and,and_true,z0o,imp_self,o6,o8,p7,i7,i9,PLoop.of,s8,AV.len,j4,z0u,l4,l5,l6,m8,m9,n5,n6,z0f,z3j]
  exact⟨⟨h.1.1,h.1.2⟩,by simp,⟨⟨hG.1.1,hG.1.2⟩,⟨hG.2.1.1,hG.2.1.2⟩,hG.2.2.1,hG.2.2.2⟩,hN,h.2⟩
theorem n50 (nm:List (Option AV)):CallOk Tryz.prog [] 50 (q6 EL none nm [PG,.st] d7n):=z4 Tryz.func50 fo50 fun av pre rv h=>by
 unfold d7n at h; split at h <;> cases h
 exact⟨⟨rfl,fun t a e=>by cases e <;> exact z0h _ _⟩,fun hp=>⟨_,v50 _ _ _ _ (hp _ (.head _)),rfl,(o5 (n34 _) (o5 (n107 _) v4)),v5⟩⟩
def a5k (fn:GF):SpG:=fun
 | [.ag [.es E,.is R,.rs M]]=>some ([SzG E M],b5e (b8 E R M) E.length (b9 E.length (fn E R M)))
 | _=>none
def a61 (n:Nat) (f:Pf):List Pq:=b9 n (wF (f7 (b9 n f)) n)
theorem d2d (f:Pf) {n:Nat} (hN:n≤64):(b9 n f).length≤1099511627776:=by
 rw[a6m]
 have h1:=a32 f n n
 have h3:n * n≤64 * 64:=z3f (by omega) (by omega)
 omega
def b18 (E:List Ev) (j:Nat):Int→Option Int:=fun a=>bif a0n a E j == 0 then none else some (a0n a E j)
def lVe (E:List Ev) (m t r:Nat):LAnn:=s8 E.length t (fun j=>j8 (a6f E m) j=true) (fun j=>[(r,.mapi .i64 (some .i64) (b18 E j))]) []
def sVe:SpG:=fun
 | [.lf (.es E),.lf (.i m)]=>some ([L40 E.length∧0≤m],.rv (.pl (.b (a7m E m.toNat))))
 | _=>none
def kVe (nm:List (Option AV)):Nat × (List MBlk→List SV→Option AR):=(79,q6 EL gbT nm [.lf .es,.lf .i] sVe)
theorem d19 (E:List Ev) (j:Nat) (a:Int):z8 (b18 E j a)=a0n a E j:=by
 unfold b18
 cases h:a0n a E j == 0
 ·rfl
 ·simp only[z0f,z8]; simp at h; exact h.symm
theorem c5c {E:List Ev} {j:Nat} (hj:j < 1099511627776) (x:Int):(bif x == (b7 e0 E j).ag then some (IntKind.i64.wrap (a0n (b7 e0 E j).ag E j + 1)) else b18 E j x)=b18 E (j + 1) x:=by
 have h5:=b9p (b7 e0 E j).ag E j
 cases h:x == (b7 e0 E j).ag
 ·have h2:((b7 e0 E j).ag == x)=false:=by
   have:x≠(b7 e0 E j).ag:=by simpa using h
   simpa using fun e=>this e.symm
  simp only[z0l,b18,a0n,h2]
 ·have h2:x=(b7 e0 E j).ag:=by simpa using h
  subst h2
  have h3:(a0n (b7 e0 E j).ag E j + 1 == 0)=false:=by simp; omega
  simp only[z0f,b18,a0n,beq_self_eq_true,h3,z0l]
  rw[a4x (by omega) (by omega)]
theorem fo79:s5 Tryz.prog 79:=⟨Tryz.f79,Tryz.func79,by kernel_rfl,by kernel_rfl⟩
def q79D (E:List Ev) (m:Int):Prop:=s4 (({ g:=true,calls:=[kVE,kE1 80 rdE,kE1 81 wrE],loops:=[(0,.of (lVe E m.toNat 11 2))] }:Kit)).tab Tryz.f79 [.sl 1 E.length,.i .i64 m] [tbl,.arr E.length (i6 E)] (m4 (.b (a7m E m.toNat)))
theorem d9e (E:List Ev) (m:Int):q79D E m=(
 let a:=PLoop.of (lVe E m.toNat (11:Nat) (2:Nat))
 let b:=(↑E.length:Int)
 let c:=a6f E m.toNat
 ∃(x:PUnit),(∃(x:Nat),(x≤E.length∧j8 c x=true)∧((0:Int)=(↑x:Int)∧True)∧(∀(x_1:Int),none=b18 E x x_1)∧True)∧∀(x_1:Nat),x_1≤E.length∧j8 c x_1=true→(decide ((↑x_1:Int) < b)=true→((0:Int)≤(↑x_1:Int)∧(↑x_1:Int) < b)∧x_1 < E.length∧some (q7 [] (match j9 ((a.ann x).mem x_1) (0:Nat) with | some v=>v | none=>q7 (a.ann x).kill tbl))=some tbl∧((!t4 (b7 e0 E x_1) || (b7 e0 E x_1).k ==(3:Int) || (b7 e0 E x_1).k ==(4:Int) || (b7 e0 E x_1).en !=(-1:Int) || (b7 e0 E x_1).ix !=z8 (b18 E x_1 (b7 e0 E x_1).ag))=true→false=a7m E m.toNat)∧((!t4 (b7 e0 E x_1) || (b7 e0 E x_1).k ==(3:Int) || (b7 e0 E x_1).k ==(4:Int) || (b7 e0 E x_1).en !=(-1:Int) || (b7 e0 E x_1).ix !=z8 (b18 E x_1 (b7 e0 E x_1).ag))=false→(((rdE (b7 e0 E x_1) || wrE (b7 e0 E x_1)) && decide ((b7 e0 E x_1).ob ≥ m))=true→false=a7m E m.toNat)∧(((rdE (b7 e0 E x_1) || wrE (b7 e0 E x_1)) && decide ((b7 e0 E x_1).ob ≥ m))=false→∃(x_2:Nat),(x_2≤E.length∧j8 c x_2=true)∧(a.ann x).mu x_2 < (a.ann x).mu x_1∧(E.length=E.length∧m=m∧True∧True∧E.length=E.length∧b=b∧IntKind.i64.wrap ((↑x_1:Int) + (1:Int))=(↑x_2:Int)∧True)∧eqT∧eqA E.length (i6 E)∧(∀(x:Int),(bif x ==(b7 e0 E x_1).ag then some (IntKind.i64.wrap (z8 (b18 E x_1 (b7 e0 E x_1).ag) + (1:Int))) else b18 E x_1 x)=b18 E x_2 x)∧True)))∧(decide ((↑x_1:Int) < b)=false→true=a7m E m.toNat)):=by kernel_rfl
theorem v79 (E:List Ev) (m:Int) (h:L40 E.length∧0≤m):q79D E m:=by
 rw[d9e]
 have hL:E.length≤1099511627776:=h.1
 have hm:(m.toNat:Int)=m:=z1a h.2
 simp only[eq_self,true_and,and_true,z0o,imp_self,o6,o8,p7,i7,i9,PLoop.of,s8,AV.len,j4,z0u,l4,l5,l6,m8,m9,n5,lVe]
 refine⟨(),⟨0,⟨by omega,rfl⟩,rfl,fun _=>rfl⟩,fun j hj=>⟨fun hlt=>?_,fun hlt=>?_⟩⟩
 ·have h1:j < E.length:=by have:=z0e hlt; omega
  have e:a6f E m.toNat j=(t4 (b7 e0 E j) && (b7 e0 E j).k != 3 && (b7 e0 E j).k != 4 && (b7 e0 E j).en == -1 && (b7 e0 E j).ix == a0n (b7 e0 E j).ag E j && !((rdE (b7 e0 E j) || wrE (b7 e0 E j)) && decide ((b7 e0 E j).ob ≥ (m.toNat:Int)))):=rfl
  rw[hm] at e
  simp only[d19]
  refine⟨⟨by omega,by omega⟩,h1,rfl,fun h2=>?_,fun h2=>⟨fun h3=>?_,fun h3=>⟨j + 1,⟨by omega,?_⟩,by omega,wrS (n:=E.length) h1 hL,fun x=>c5c (by omega) x⟩⟩⟩
  ·refine(a06 h1 ?_).symm
   rw[e]; grind
  ·refine(a06 h1 ?_).symm
   rw[e,h3]; simp
  ·simp only[j8,hj.2,z0y]
   rw[e,h3]; grind
 ·have h1:j=E.length:=by have:=z0i hlt; omega
  have:=hj.2
  rw[h1] at this
  exact this.symm
theorem n79 (nm:List (Option AV)):CallOk Tryz.prog GL 79 (q6 EL gbT nm [.lf .es,.lf .i] sVe):=a5i Tryz.func79 fo79 fun av pre rv h=>by
 unfold sVe at h; split at h <;> cases h
 exact⟨⟨rfl,fun t a e=>by cases e <;> exact z0h _ _⟩,fun hp=>⟨_,v79 _ _ (hp _ (.head _)),rfl,(o5 (n123 _) (o5 (a1n (n80 _)) (o5 (a1n (n81 _)) v4))),v5⟩⟩
def a2h (E:List Ev):Nat→Int
 | 0=>0
 | j + 1=>bif wrE (evA E j) then a2h E j + 1 else a2h E j
def a31 (L:List Int):Int→Option Int:=fun a=>bif L.contains a then some 1 else none
def w7 (M:List (List Int)):Nat→List Int
 | 0=>[]
 | o + 1=>w7 M o ++ x8 M o
def a0r (E:List Ev) (o:Int):List Int→List Int→Bool
 | _,[]=>true
 | L,x :: r=>decide (0≤x) && decide (x < E.length) && !L.contains x && wrE (evA E x) && (evA E x).ob == o && a0r E o (L ++ [x]) r
def a1z (E:List Ev) (M:List (List Int)):Nat→Bool
 | 0=>true
 | o + 1=>a1z E M o && a0r E o (w7 M o) (x8 M o)
def lV1 (E:List Ev) (R:List Int) (t c:Nat):LAnn where
 X:=Nat
 inv:=fun j=>j≤E.length∧j8 (a20 E R) j=true
 slots:=fun j=>[(t,.i .i64 (j:Int)),(c,.i .i64 (a2h E j))]
 mem:=fun _=>[]
 mu:=fun j=>E.length - j
 kill:=[]
def lV2 (E:List Ev) (M:List (List Int)) (t r:Nat):LAnn:=s8 M.length t (fun o=>a1z E M o=true) (fun o=>[(r,.mapi .i64 none (a31 (w7 M o)))]) []
def lV3 (E:List Ev) (M:List (List Int)) (t r:Nat):PLoop:=⟨Nat,fun o=>{ X:=Nat,inv:=fun q=>q≤(x8 M o).length∧o < M.length∧a0r E o (w7 M o) ((x8 M o).take q)=true,slots:=fun q=>[(t,.i .i64 (q:Int))],mem:=fun q=>[(r,.mapi .i64 none (a31 (w7 M o ++ (x8 M o).take q)))],mu:=fun q=>(x8 M o).length - q,kill:=[] }⟩
theorem b3a {L:List Int}:∀ {W:List Int},L.Nodup→(∀ x∈L,x∈W)→W.length≤L.length→∀ x∈W,x∈L:=by
 induction L with
 | nil=>intro W _ _ hl x hx; cases W with
  | nil=>cases hx
  | cons y r=>simp at hl
 | cons a L ih =>
  intro W hn hs hl x hx
  rw[z2o] at hn
  by_cases e:x=a
  ·subst e; exact z1f
  ·refine z0w _ (ih (W:=W.erase a) hn.2 (fun y hy=>?_) ?_ x ((List.mem_erase_of_ne e).2 hx))
   ·exact(List.mem_erase_of_ne (fun h:y=a=>hn.1 (by rw[← h]; exact hy))).2 (hs y (z0w _ hy))
   ·rw[List.length_erase_of_mem (hs a z1f)]
    simp at hl; omega
theorem a9s {L:List Int}:∀ {W:List Int},L.Nodup→(∀ x∈L,x∈W)→L.length≤W.length:=by
 induction L with
 | nil=>intro W _ _; simp
 | cons a L ih =>
  intro W hn hs
  rw[z2o] at hn
  have h1:=ih (W:=W.erase a) hn.2 (fun y hy=>(List.mem_erase_of_ne (fun h:y=a=>hn.1 (by rw[← h]; exact hy))).2 (hs y (z0w _ hy)))
  have h2:=hs a z1f
  rw[List.length_erase_of_mem h2] at h1
  have h3:0 < W.length:=List.length_pos_of_mem h2
  simp; omega
theorem c6r {W:List Int}:∀ {r:List Int},W.Nodup→(∀ x∈W,x∈r)→r.length≤W.length→r.Nodup:=by
 induction W with
 | nil=>intro r _ _ hl; cases r with
  | nil=>exact List.nodup_nil
  | cons y r=>simp at hl
 | cons a W ih =>
  intro r hn hs hl
  have hall:=b3a hn hs hl
  rw[z2o] at hn
  have ha:=hs a z1f
  have hlen:=List.length_erase_of_mem ha
  have hsub:∀ x∈W,x∈r.erase a:=fun x hx=>(List.mem_erase_of_ne (fun h:x=a=>hn.1 (by rw[← h]; exact hx))).2 (hs x (z0w _ hx))
  have hl2:(r.erase a).length≤W.length:=by simp at hl; omega
  have h1:=ih hn.2 hsub hl2
  have h2:=b3a hn.2 hsub hl2
  exact(List.perm_cons_erase ha).nodup_iff.2 (z2o.2 ⟨fun h=>hn.1 (h2 a h),h1⟩)
def wrL (E:List Ev):Nat→List Int
 | 0=>[]
 | j + 1=>bif wrE (evA E j) then wrL E j ++ [(j:Int)] else wrL E j
def wrO (E:List Ev) (o:Int):Nat→List Int
 | 0=>[]
 | j + 1=>bif a2w E o j then wrO E o j ++ [(j:Int)] else wrO E o j
theorem b3j {E:List Ev} {x:Int}:∀ {j:Nat},x∈wrL E j↔0≤x∧x < j∧wrE (evA E x)=true:=by
 intro j
 induction j with
 | zero=>simp[wrL]; omega
 | succ j ih =>
  simp only[wrL]
  cases h:wrE (evA E j)
  ·simp only[z0l,ih]
   constructor
   ·rintro ⟨a,b,c⟩; exact⟨a,by omega,c⟩
   ·rintro ⟨a,b,c⟩
    refine⟨a,?_,c⟩
    have:x≠j:=fun e=>by subst e; rw[h] at c; cases c
    omega
  ·simp only[z0f,z0n,z0t,ih]
   constructor
   ·rintro (⟨a,b,c⟩ | rfl)
    ·exact⟨a,by omega,c⟩
    ·exact⟨by omega,by omega,h⟩
   ·rintro ⟨a,b,c⟩
    by_cases e:x=j
    ·exact .inr e
    ·exact .inl ⟨a,by omega,c⟩
theorem c7j {E:List Ev}:∀ {j:Nat},(wrL E j).Nodup:=by
 intro j
 induction j with
 | zero=>simp[wrL]
 | succ j ih =>
  simp only[wrL]
  cases h:wrE (evA E j)
  ·exact ih
  ·simp only[z0f]
   rw[List.nodup_append]
   refine⟨ih,by simp,fun a ha b hb=>?_⟩
   have:=(b3j.1 ha).2.1
   simp at hb
   omega
theorem d50 {E:List Ev}:∀ {j:Nat},((wrL E j).length:Int)=a2h E j:=by
 intro j
 induction j with
 | zero=>rfl
 | succ j ih =>
  simp only[wrL,a2h]
  cases h:wrE (evA E j)
  ·exact ih
  ·simp only[z0f,z1d,z3p]; omega
theorem a57 {E:List Ev} {o x:Int}:∀ {j:Nat},x∈wrO E o j↔0≤x∧x < j∧a2w E o x=true:=by
 intro j
 induction j with
 | zero=>simp[wrO]; omega
 | succ j ih =>
  simp only[wrO]
  cases h:a2w E o j
  ·simp only[z0l,ih]
   constructor
   ·rintro ⟨a,b,c⟩; exact⟨a,by omega,c⟩
   ·rintro ⟨a,b,c⟩
    refine⟨a,?_,c⟩
    have:x≠j:=fun e=>by subst e; rw[h] at c; cases c
    omega
  ·simp only[z0f,z0n,z0t,ih]
   constructor
   ·rintro (⟨a,b,c⟩ | rfl)
    ·exact⟨a,by omega,c⟩
    ·exact⟨by omega,by omega,h⟩
   ·rintro ⟨a,b,c⟩
    by_cases e:x=j
    ·exact .inr e
    ·exact .inl ⟨a,by omega,c⟩
theorem b26 {E:List Ev} {o:Int}:∀ {j:Nat},(wrO E o j).Nodup:=by
 intro j
 induction j with
 | zero=>simp[wrO]
 | succ j ih =>
  simp only[wrO]
  cases h:a2w E o j
  ·exact ih
  ·simp only[z0f]
   rw[List.nodup_append]
   refine⟨ih,by simp,fun a ha b hb=>?_⟩
   have:=(a57.1 ha).2.1
   simp at hb
   omega
theorem d51 {E:List Ev} {o:Int}:∀ {j:Nat},((wrO E o j).length:Int)=a6e E o j:=by
 intro j
 induction j with
 | zero=>rfl
 | succ j ih =>
  simp only[wrO,a6e]
  cases h:a2w E o j
  ·exact ih
  ·simp only[z0f,z1d,z3p]; omega
theorem c9b {x:Int}:∀ {l:List Int} {i:Int},0≤i→(a95 x l i < 0↔x ∉ l):=by
 intro l
 induction l with
 | nil=>intro i _; simp[a95]
 | cons y r ih =>
  intro i hi
  simp only[a95]
  cases h:y == x
  ·have h2:x≠y:=by
              have:y≠x:=by simpa using h
              exact fun e=>this e.symm
   rw[z0l,ih (by omega)]
   simp[h2]
  ·have h2:y=x:=by simpa using h
   subst h2
   simp; omega
theorem a77 {x:Int} {l:List Int}:w9 l x < 0↔x ∉ l:=c9b (Int.le_refl 0)
theorem a9k {M:List (List Int)} {x:Int}:∀ {m:Nat},x∈w7 M m↔∃ o:Nat,o < m∧x∈x8 M o:=by
 intro m
 induction m with
 | zero=>simp[w7]
 | succ m ih =>
  simp only[w7,z0n,ih]
  constructor
  ·rintro (⟨o,h1,h2⟩ | h)
   ·exact⟨o,by omega,h2⟩
   ·exact⟨m,by omega,h⟩
  ·rintro ⟨o,h1,h2⟩
   by_cases e:o=m
   ·subst e; exact .inr h2
   ·exact .inl ⟨o,by omega,h2⟩
theorem a2k {E:List Ev} {o:Int}:∀ {r L:List Int},a0r E o L r=true↔(∀ x∈r,(0≤x∧x < E.length)∧x ∉ L∧wrE (evA E x)=true∧(evA E x).ob=o)∧r.Nodup:=by
 intro r
 induction r with
 | nil=>intro L; simp[a0r]
 | cons x r ih =>
  intro L
  simp only[a0r,z0d,z1m,z0v,beq_iff_eq,ih,z2o,z0q,z0n,List.contains_eq_mem,z1k]
  constructor
  ·rintro ⟨⟨⟨⟨⟨h1,h2⟩,h3⟩,h4⟩,h5⟩,h6,h7⟩
   refine⟨fun y hy=>?_,?_,h7⟩
   ·rcases hy with rfl | hy
    ·exact⟨⟨h1,h2⟩,h3,h4,h5⟩
    ·obtain⟨a,b,c⟩:=h6 y hy
     exact⟨a,fun h=>b (.inl h),c⟩
   ·intro hx
    exact(h6 x hx).2.1 (.inr (by simp))
  ·rintro ⟨h1,h2,h3⟩
   obtain⟨a,b,c,d⟩:=h1 x (.inl rfl)
   refine⟨⟨⟨⟨⟨a.1,a.2⟩,b⟩,c⟩,d⟩,fun y hy=>?_,h3⟩
   obtain⟨a',b',c',d'⟩:=h1 y (.inr hy)
   refine⟨a',fun h=>?_,c',d'⟩
   rcases h with h | h
   ·exact b' h
   ·simp at h; subst h; exact h2 hy
theorem a56 {E:List Ev} {M:List (List Int)}:∀ {m:Nat},a1z E M m=true↔∀ o:Nat,o < m→a0r E o (w7 M o) (x8 M o)=true:=by
 intro m
 induction m with
 | zero=>simp[a1z]
 | succ m ih =>
  simp only[a1z,z0d,ih]
  constructor
  ·rintro ⟨h1,h2⟩ o ho
   by_cases e:o=m
   ·subst e; exact h2
   ·exact h1 o (by omega)
  ·intro h
   exact⟨fun o ho=>h o (by omega),h m (by omega)⟩
theorem a9l {E:List Ev} {M:List (List Int)}:∀ {m:Nat},(∀ o:Nat,o < m→a0r E o (w7 M o) (x8 M o)=true)→(w7 M m).Nodup∧∀ x∈w7 M m,x∈wrL E E.length:=by
 intro m
 induction m with
 | zero=>intro _; simp[w7]
 | succ m ih =>
  intro h
  obtain⟨h1,h2⟩:=ih fun o ho=>h o (by omega)
  obtain⟨h3,h4⟩:=a2k.1 (h m (by omega))
  refine⟨?_,fun x hx=>?_⟩
  ·simp only[w7]
   rw[List.nodup_append]
   exact⟨h1,h4,fun a ha b hb e=>(h3 b hb).2.1 (e ▸ ha)⟩
  ·simp only[w7,z0n] at hx
   rcases hx with hx | hx
   ·exact h2 x hx
   ·obtain⟨a,b,c,d⟩:=h3 x hx
    exact b3j.2 ⟨a.1,a.2,c⟩
theorem a2n {E:List Ev} {o x:Int}:a2w E o x=true↔wrE (evA E x)=true∧(evA E x).ob=o:=by simp[a2w]
theorem c5s {E:List Ev} {M:List (List Int)} {o x:Int}:a91 E M o x=true↔(a2w E o x=true→x∈x8 M o):=by
 simp only[a91,z0v,Bool.and_eq_false_iff,z1k]
 constructor
 ·rintro (h | h) hw
  ·rw[h] at hw; cases hw
  ·exact Classical.byContradiction fun hn=>h (a77.2 hn)
 ·intro h
  cases hw:a2w E o x
  ·exact .inl rfl
  ·exact .inr fun hn=>a77.1 hn (h hw)
theorem a8m {E:List Ev} {M:List (List Int)} {o:Int}:a4y E M o=true↔(∀ x∈wrO E o E.length,x∈x8 M o)∧(x8 M o).length=(wrO E o E.length).length:=by
 simp only[a4y,z0d,beq_iff_eq,x4,c5s,← d51]
 refine and_congr ⟨fun h x hx=>?_,fun h j hj hw=>h _ (a57.2 ⟨by omega,by omega,hw⟩)⟩ (by omega)
 obtain⟨a,b,c⟩:=a57.1 hx
 have:=h x.toNat (by omega)
 rw[z1a a] at this
 exact this c
theorem b97 {E:List Ev} {M:List (List Int)} (hl:∀ j:Int,0≤j→j < E.length→wrE (evA E j)=true→0≤(evA E j).ob∧(evA E j).ob < M.length):(a1z E M M.length && (((w7 M M.length).length:Int) == a2h E E.length))=j8 (a4y E M) M.length:=by
 rw[z2j,z0d,beq_iff_eq,a56,x4,← d50]
 constructor
 ·rintro ⟨h1,h2⟩ o ho
  obtain⟨n1,n2⟩:=a9l h1
  have hall:=b3a n1 n2 (by omega)
  obtain⟨g1,g2⟩:=a2k.1 (h1 o ho)
  have hin:∀ x∈wrO E o E.length,x∈x8 M o:=fun x hx=>by
   obtain⟨a,b,c⟩:=a57.1 hx
   obtain⟨c1,c2⟩:=a2n.1 c
   obtain⟨o',ho',hx'⟩:=a9k.1 (hall x (b3j.2 ⟨a,b,c1⟩))
   have:=((a2k.1 (h1 o' ho')).1 x hx').2.2.2
   have e:o'=o:=by omega
   rw[e] at hx'
   exact hx'
  refine a8m.2 ⟨hin,?_⟩
  have p1:=a9s (b26 (E:=E) (o:=o) (j:=E.length)) hin
  have p2:=a9s g2 (fun x hx=>a57.2 ⟨(g1 x hx).1.1,(g1 x hx).1.2,a2n.2 (g1 x hx).2.2⟩)
  omega
 ·intro h
  have key:∀ o:Nat,o < M.length→(x8 M o).Nodup∧∀ x∈x8 M o,x∈wrO E o E.length:=fun o ho=>by
   obtain⟨h1,h2⟩:=a8m.1 (h o ho)
   exact⟨c6r b26 h1 (by omega),b3a b26 h1 (by omega)⟩
  have hg:∀ o:Nat,o < M.length→a0r E o (w7 M o) (x8 M o)=true:=fun o ho=>by
   obtain⟨k1,k2⟩:=key o ho
   refine a2k.2 ⟨fun x hx=>?_,k1⟩
   obtain⟨a,b,c⟩:=a57.1 (k2 x hx)
   refine⟨⟨a,b⟩,fun hf=>?_,a2n.1 c⟩
   obtain⟨o',ho',hx'⟩:=a9k.1 hf
   obtain⟨_,_,c'⟩:=a57.1 ((key o' (by omega)).2 x hx')
   have e1:=(a2n.1 c).2
   have e2:=(a2n.1 c').2
   omega
  refine⟨hg,?_⟩
  obtain⟨n1,n2⟩:=a9l hg
  have p1:=a9s n1 n2
  have p2:=a9s (c7j (E:=E) (j:=E.length)) (W:=w7 M M.length) (fun x hx=>by
   obtain⟨a,b,c⟩:=b3j.1 hx
   obtain⟨o1,o2⟩:=hl x a b c
   refine a9k.2 ⟨(evA E x).ob.toNat,by omega,?_⟩
   refine(a8m.1 (h (evA E x).ob.toNat (by omega))).1 x (a57.2 ⟨a,b,a2n.2 ⟨c,by omega⟩⟩))
  omega
theorem c79 {L:List Int} (h:L.Nodup):b3w (a31 L)=L.length:=b9m h fun a=>by
 simp only[a31,List.contains_eq_mem]
 by_cases ha:a∈L <;> simp[ha]
theorem d1s (E:List Ev):∀ j,0≤a2h E j∧a2h E j≤j:=by
 intro j
 induction j with
 | zero=>simp[a2h]
 | succ j ih=>simp only[a2h]; cases wrE (evA E j) <;> simp <;> omega
theorem c4i {E:List Ev} {m:Nat} (a4:a7m E m=true):∀ i:Int,0≤i→i < E.length→wrE (evA E i)=true→0≤(evA E i).ob∧(evA E i).ob < m:=fun i h0 h1 hw=>by
 have h:a6f E m i=true:=by
  have:=x4.1 a4 i.toNat (by omega)
  rwa [z1a h0] at this
 simp only[a6f,z0d,hw,Bool.or_true,z0y,z0v,z1k] at h
 have hv:=h.1.1.1.1.1
 simp only[t4,z0d] at hv
 have ho:a26 (evA E i)=true:=hv.1.1.1.1.1.1.1.1.2
 have hk:(evA E i).k=2∨(evA E i).k=5:=by simpa [wrE] using hw
 refine⟨?_,by omega⟩
 rcases hk with hk | hk <;> simp[a26,hk,w6] at ho <;> omega
theorem b95 {E:List Ev} {o x:Int}:∀ {r L:List Int},a0r E o L (r ++ [x])=(a0r E o L r && (decide (0≤x) && decide (x < E.length) && !(L ++ r).contains x && wrE (evA E x) && (evA E x).ob == o)):=by
 intro r
 induction r with
 | nil=>intro L; simp[a0r]
 | cons y r ih =>
  intro L
  simp only[List.cons_append,a0r,ih,z1x,List.singleton_append,Bool.and_assoc,List.nil_append]
theorem b96 {E:List Ev} {o:Int} {L r:List Int} (h:a0r E o L r=true) (q:Nat):a0r E o L (r.take q)=true:=by
 obtain⟨h1,h2⟩:=a2k.1 h
 exact a2k.2 ⟨fun x hx=>h1 x (List.mem_of_mem_take hx),h2.sublist (List.take_sublist _ _)⟩
theorem c1u (L:List Int) (a:Int):(z8 (a31 L a) != 0)=L.contains a:=by
 unfold a31
 cases L.contains a <;> rfl
theorem b7f (L:List Int) (x a:Int):(bif a == x then some 1 else a31 L a)=a31 (L ++ [x]) a:=by
 unfold a31
 cases h:a == x
 ·have h2:a≠x:=by simpa using h
  have:(L ++ [x]).contains a=L.contains a:=by
   rw[z2j]; simp[h2]
  rw[this,z0l]
 ·have h2:a=x:=by simpa using h
  have:(L ++ [x]).contains a=true:=by simp[h2]
  rw[this]; rfl
theorem b7l {l:List Int} {q:Nat} (h:q < l.length):l.take (q + 1)=l.take q ++ [b7 0 l q]:=by
 rw[List.take_succ_eq_append_getElem h,m7 0 l q h]
theorem d2v {E:List Ev} {M:List (List Int)} {o q:Nat} (ho:o < M.length) (hl:∀ j:Int,0≤j→j < E.length→wrE (evA E j)=true→0≤(evA E j).ob∧(evA E j).ob < M.length) (h:a0r E o (w7 M o) ((x8 M o).take q)=false):j8 (a4y E M) M.length=false:=by
 rw[← b97 hl]
 have:a1z E M M.length=false:=by
  cases hr:a1z E M M.length
  ·rfl
  ·have:=b96 (a56.1 hr o ho) q
   rw[h] at this; cases this
 rw[this]; rfl
end Go.Proofs.YtaeeaniofljmnaaGreatDoor
