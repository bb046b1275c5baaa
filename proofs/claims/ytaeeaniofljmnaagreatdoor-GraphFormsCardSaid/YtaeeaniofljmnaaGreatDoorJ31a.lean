/-
  A part of the proof (J31a).
-/
import Derived.Test.YtaeeaniofljmnaaGreatDoorJ27a
import Derived.Test.YtaeeaniofljmnaaGreatDoorJV3
namespace Go.Proofs.YtaeeaniofljmnaaGreatDoor
set_option linter.unusedSimpArgs false
set_option linter.unusedVariables false
open Go Go.Proofs.YtaeeaniofljmnaaGreatDoor.Sx
set_option maxRecDepth 100000
def pgM:GP:=fun E _ M _ _=>(E.length:Int)≤64∧SzG E M∧M.length≤8
def pgF:GP:=fun E R M _ _=>(E.length:Int)≤64∧R.length=E.length∧SzG E M∧M.length≤8
def a78 (pc:GP) (fn:GF):SpG:=fun
 | [.ag [.es E,.is R,.rs M]]=>some ([pc E R M 0 0],b09 E.length (b7 E.length (fn E R M)))
 | _=>none
theorem fo62:p8 Tryz.prog 62:=⟨Tryz.f62,Tryz.func62,by kernel_rfl,by kernel_rfl⟩
theorem fo49:p8 Tryz.prog 49:=⟨Tryz.f49,Tryz.func49,by kernel_rfl,by kernel_rfl⟩
theorem d9b:p8 Tryz.prog 118:=⟨Tryz.f118,Tryz.func118,by kernel_rfl,by kernel_rfl⟩
theorem e0d {l:List (Nat × PLoop)} {t:List (Nat × (List Slot→List MBlk→List Gh))} {s:List Nat}:a26 (118,⟨Tryz.f118,l,t,s⟩):=⟨Tryz.func118,d9b⟩
theorem d91:p8 Tryz.prog 106:=⟨Tryz.f106,Tryz.func106,by kernel_rfl,by kernel_rfl⟩
theorem e0b {l:List (Nat × PLoop)} {t:List (Nat × (List Slot→List MBlk→List Gh))} {s:List Nat}:a26 (106,⟨Tryz.f106,l,t,s⟩):=⟨Tryz.func106,d91⟩
def q62D (E:List Ev) (R:List Int) (M:List (List Int)):Prop:=p7 (({ calls:=[d0t,kPl (nmG E R M),c4u (no 12 ++ [some (.ps (b9 (j7 E R M) E.length E.length))]),kE1 81 wrE],inl:=[d0m 11,allI E.length (j7 E R M) 11 12,(118,{ fn:=Tryz.f118 })] }:Kit)).tab Tryz.f62 [grV E R M] (grM E R M) ((b09 E.length (b7 E.length (j7 E R M))).post EL)
theorem d7x (E:List Ev) (R:List Int) (M:List (List Int)):q62D E R M=(
 let a:=(↑E.length:Int)
 let b:=j7 E R M
 let c:=E.length=E.length∧R.length=R.length∧M.length=M.length
 let d:=((0:Int),(0:Int))
 let e:=a=a∧(True∧True)∧True∧True∧True∧True∧True∧a=a∧(a=a∧True)∧(True∧True)∧True∧True∧True∧True∧True∧True∧True∧True∧True
 let f:=bif d8 a (b9 b E.length E.length) then b7 a (d7 (b9 b E.length E.length)) else []
 let g:=c∧True∧True∧True∧c∧True∧True∧E.length=E.length∧a=a∧c∧(True∧True)∧(True∧True)∧True
 let h:=a3x E.length b (15:Nat) (11:Nat) (12:Nat)
 let i:=(0:Int)=(0:Int)∧True
 let k:=PLoop.of (a5t E.length b (9:Nat) (11:Nat) (12:Nat))
 let l:=AV.ps (b7 a b)
 let m:=(1099511627776:Nat)
 let n:=(1:Nat)
 E.length=E.length∧R.length=R.length∧M.length=M.length∧nE E∧nI R∧nR M∧((E.length≤m∧(M.length≤(8:Nat)→∀(r:List Int),List.Mem r M→r.length≤m))∧M.length≤(8:Nat))∧∀(us us_1:List Value) (cd:LupCd) (x:Option Addr × Nat),∃(x:PUnit),(∃(x:Nat),(x≤E.length∧True)∧((0:Int)=(↑x:Int)∧True)∧(a=a∧(0:Nat)=(b9 b E.length x).length)∧((0:Nat)=(b9 b E.length x).length∧(b9 b E.length x).length=(0:Nat)∧(b9 b E.length x).length=(0:Nat)∧True)∧True)∧∀(x_1:Nat),x_1≤E.length∧True→(decide ((↑x_1:Int) < a)=true→∃(x_2:Nat),(∃(x:Nat),(x≤E.length∧x_2 < E.length)∧((0:Int)=(↑x:Int)∧True)∧(a=a∧(b9 b E.length x_1).length=(b9 b E.length x_2 ++ d6 b x_2 x).length)∧((b9 b E.length x_1).length=(b9 b E.length x_2 ++ d6 b x_2 x).length∧(∀(j:Nat),j < (b9 b E.length x_2 ++ d6 b x_2 x).length→(b6 d (b9 b E.length x_1) j).fst=(b6 d (b9 b E.length x_2 ++ d6 b x_2 x) j).fst)∧(∀(j:Nat),j < (b9 b E.length x_2 ++ d6 b x_2 x).length→(b6 d (b9 b E.length x_1) j).snd=(b6 d (b9 b E.length x_2 ++ d6 b x_2 x) j).snd)∧True)∧True)∧∀(x_3:Nat),x_3≤E.length∧x_2 < E.length→(decide ((↑x_3:Int) < a)=true→∀(us_2:List Value),((0:Int)≤(↑x_1:Int)∧(↑x_1:Int) < a)∧x_1 < E.length∧((0:Int)≤(↑x_3:Int)∧(↑x_3:Int) < a)∧x_3 < E.length∧us_2=us_2∧((wrE (b6 e0 E x_1) && wrE (b6 e0 E x_3) && (b6 e0 E x_1).ob ==(b6 e0 E x_3).ob && decide (a1x (plM M (↑x_1:Int)) < a1x (plM M (↑x_3:Int))))=true→∀(us_3:List Value),us_1=us_1∧cd=cd∧us_1=us_1∧us_1=us_1∧cd=cd∧(b9 b E.length x_2 ++ d6 b x_2 x_3).length=(b9 b E.length x_2 ++ d6 b x_2 x_3).length∧n=n∧((b9 b E.length
 x_2 ++ d6 b x_2 x_3).length + n) * (16:Nat)≤(140737488355328:Nat)∧(b9 b E.length x_2 ++ d6 b x_2 x_3).length + n≤(9223372036854775807:Nat)∧us_1=us_1∧cd=cd∧us_3=us_3∧∃(x:Nat),(x≤E.length∧x_2 < E.length)∧(h.ann x_2).mu x < (h.ann x_2).mu x_3∧(True∧True∧True∧(↑x_1:Int)=(↑x_1:Int)∧True∧E.length=E.length∧a=a∧(↑x_1:Int)=(↑x_1:Int)∧true=true∧(↑x_1:Int)=(↑x_1:Int)∧True∧E.length=E.length∧a=a∧IntKind.i64.wrap ((↑x_3:Int) + (1:Int))=(↑x:Int)∧True)∧eqA E.length (i6 E)∧eqA R.length (f7 R)∧eqA M.length (i4 M)∧c∧i∧(∀(x:Int),plM M x=plM M x)∧True∧c∧(True∧True)∧(g∧us=us)∧i∧(a=a∧(b9 b E.length x_2 ++ d6 b x_2 x_3).length + n=(b9 b E.length x_2 ++ d6 b x_2 x).length)∧((b9 b E.length x_2 ++ d6 b x_2 x_3).length + n=(b9 b E.length x_2 ++ d6 b x_2 x).length∧(∀(j:Nat),j < (b9 b E.length x_2 ++ d6 b x_2 x).length→(bif j.blt (b9 b E.length x_2 ++ d6 b x_2 x_3).length then(b6 d (b9 b E.length x_2 ++ d6 b x_2 x_3) j).fst else d9 [(↑x_1:Int)] (j - (b9 b E.length x_2 ++ d6 b x_2 x_3).length))=(b6 d (b9 b E.length x_2 ++ d6 b x_2 x) j).fst)∧(∀(j:Nat),j < (b9 b E.length x_2 ++ d6 b x_2 x).length→(bif j.blt (b9 b E.length x_2 ++ d6 b x_2 x_3).length then(b6 d (b9 b E.length x_2 ++ d6 b x_2 x_3) j).snd else d9 [(↑x_3:Int)] (j - (b9 b E.length x_2 ++ d6 b x_2 x_3).length))=(b6 d (b9 b E.length x_2 ++ d6 b x_2 x) j).snd)∧True)∧(e∧us_1=us_1)∧(us_1=us_1∧cd=cd)∧True)∧((wrE (b6 e0 E x_1) && wrE (b6 e0 E x_3) && (b6 e0 E x_1).ob ==(b6 e0 E x_3).ob && decide (a1x (plM M (↑x_1:Int)) < a1x (plM M (↑x_3:Int))))
 =!true→∃(x:Nat),(x≤E.length∧x_2 < E.length)∧(h.ann x_2).mu x < (h.ann x_2).mu x_3∧(True∧True∧True∧(↑x_1:Int)=(↑x_1:Int)∧True∧E.length=E.length∧a=a∧(↑x_1:Int)=(↑x_1:Int)∧true=true∧(↑x_1:Int)=(↑x_1:Int)∧True∧E.length=E.length∧a=a∧IntKind.i64.wrap ((↑x_3:Int) + (1:Int))=(↑x:Int)∧True)∧eqA E.length (i6 E)∧eqA R.length (f7 R)∧eqA M.length (i4 M)∧c∧i∧(∀(x:Int),plM M x=plM M x)∧True∧c∧(True∧True)∧(g∧us=us)∧i∧(a=a∧(b9 b E.length x_2 ++ d6 b x_2 x_3).length=(b9 b E.length x_2 ++ d6 b x_2 x).length)∧((b9 b E.length x_2 ++ d6 b x_2 x_3).length=(b9 b E.length x_2 ++ d6 b x_2 x).length∧(∀(j:Nat),j < (b9 b E.length x_2 ++ d6 b x_2 x).length→(b6 d (b9 b E.length x_2 ++ d6 b x_2 x_3) j).fst=(b6 d (b9 b E.length x_2 ++ d6 b x_2 x) j).fst)∧(∀(j:Nat),j < (b9 b E.length x_2 ++ d6 b x_2 x).length→(b6 d (b9 b E.length x_2 ++ d6 b x_2 x_3) j).snd=(b6 d (b9 b E.length x_2 ++ d6 b x_2 x) j).snd)∧True)∧(e∧us_1=us_1)∧(us_1=us_1∧cd=cd)∧True))∧(decide ((↑x_3:Int) < a)=false→∃(x_4:Nat),(x_4≤E.length∧True)∧(k.ann x).mu x_4 < (k.ann x).mu x_1∧(True∧True∧True∧True∧E.length=E.length∧a=a∧IntKind.i64.wrap ((↑x_1:Int) + (1:Int))=(↑x_4:Int)∧True)∧eqA E.length (i6 E)∧eqA R.length (f7 R)∧eqA M.length (i4 M)∧c∧i∧(∀(x:Int),plM M x=plM M x)∧True∧c∧(True∧True)∧(g∧us=us)∧i∧(a=a∧(b9 b E.length x_2 ++ d6 b x_2 x_3).length=(b9 b E.length x_4).length)∧((b9 b E.length x_2 ++ d6 b x_2 x_3).length=(b9 b E.length x_4).length∧(∀(j:Nat),j < (b9 b E.length x_4).length→(b6 d (b9 b E.length x_2 ++ d6 b x_2 x_3) j).fst=(b6 d (b9 b
 E.length x_4) j).fst)∧(∀(j:Nat),j < (b9 b E.length x_4).length→(b6 d (b9 b E.length x_2 ++ d6 b x_2 x_3) j).snd=(b6 d (b9 b E.length x_4) j).snd)∧True)∧(e∧us_1=us_1)∧(us_1=us_1∧cd=cd)∧True))∧(decide ((↑x_1:Int) < a)=false→us_1=us_1∧us_1=us_1∧cd=cd∧(b9 b E.length x_1).length=(b9 b E.length x_1).length∧mkN (fun(j:Nat)=>((b6 d (b9 b E.length x_1) j).fst,(b6 d (b9 b E.length x_1) j).snd)) (b9 b E.length x_1).length=b9 b E.length E.length∧(b9 b E.length E.length).length≤m∧us=us∧(AV.ps f).len=l.len∧((∀(j:Nat),j < l.len→(b6 d f j).fst=(b6 d (b7 a b) j).fst)∧(∀(j:Nat),j < l.len→(b6 d f j).snd=(b6 d (b7 a b) j).snd)∧True)∧(bif d8 a (b9 b E.length E.length) then a else(0:Int))=a∧(AV.ps f).len=l.len∧True)):=by kernel_rfl
theorem v62 (E:List Ev) (R:List Int) (M:List (List Int)) (h:pgM E R M 0 0):q62D E R M:=by
 rw[d7x]
 have h64:(E.length:Int)≤64:=h.1
 have hlen:=b6b (j7 E R M) (n:=E.length) (by omega)
 simp only[eq_self,true_and,and_true,z0n,imp_self,l9,m6,n5,g7,g8,PLoop.of,q6,AV.len,g9,z0s,i9,j4,j5,l5,l6,l7,a5t,a3x,PLoop.of,n5]
 refine⟨⟨⟨h.2.1.1,h.2.1.2⟩,h.2.2⟩,fun cd=>⟨(),⟨0,by simp,rfl,?_⟩,fun a ha=>⟨fun hlt=>⟨a,⟨0,?_⟩,fun b hb=>⟨fun hlb=>⟨⟨by have:=z0e hlt; have:=z0e hlb; omega,by have:=z0e hlt; have:=z0e hlb; omega⟩,(by have:=z0e hlt; have:=z0e hlb; omega),⟨by have:=z0e hlt; have:=z0e hlb; omega,by have:=z0e hlt; have:=z0e hlb; omega⟩,(by have:=z0e hlt; have:=z0e hlb; omega),fun hf=>?_,fun hf=>?_⟩,fun hlb=>?_⟩⟩,fun hlt=>?_⟩⟩⟩
 ·simp[a2k]
 ·have ha2:a < E.length:=by have:=z0e hlt; omega
  simp[a44,ha2]
 ·have hb2:b < E.length:=by have:=z0e hlb; omega
  have h1:=hlen a b hb.2 hb.1
  replace hf:(j7 E R M) a b=true:=hf
  have e:d6 (j7 E R M) a (b + 1)=d6 (j7 E R M) a b ++ [((a:Int),(b:Int))]:=by rw[a04,if_pos hf]
  have e2:b9 (j7 E R M) E.length a ++ d6 (j7 E R M) a (b + 1)=(b9 (j7 E R M) E.length a ++ d6 (j7 E R M) a b) ++ [((a:Int),(b:Int))]:=by rw[e,z1z]
  refine⟨by omega,by omega,b + 1,⟨by omega,hb.2⟩,by omega,wrS (n:=E.length) hb2 (by omega),?_⟩
  rw[e2]
  have e3:(b9 (j7 E R M) E.length a ++ d6 (j7 E R M) a b ++ [((a:Int),(b:Int))]).length=(b9 (j7 E R M) E.length a ++ d6 (j7 E R M) a b).length + 1:=by rw[z0x (bs:=[((a:Int),(b:Int))])]; rfl
  exact⟨e3.symm,e3.symm,ap1 (·.1) _ _,ap1 (·.2) _ _⟩
 ·have hb2:b < E.length:=by have:=z0e hlb; omega
  replace hf:(j7 E R M) a b=false:=hf
  have e:d6 (j7 E R M) a (b + 1)=d6 (j7 E R M) a b:=by rw[a04,if_neg (by rw[hf]; simp),z1f]
  refine⟨b + 1,⟨by omega,hb.2⟩,by omega,wrS (n:=E.length) hb2 (by omega),?_⟩
  rw[e]
  simp
 ·have hb2:b=E.length:=by have:=z0i hlb; omega
  have e:b9 (j7 E R M) E.length (a + 1)=b9 (j7 E R M) E.length a ++ d6 (j7 E R M) a b:=by rw[a1e,hb2]
  refine⟨a + 1,by omega,by omega,wrS (n:=E.length) hb.2 (by omega),?_⟩
  rw[e]
  simp
 ·have ha2:a=E.length:=by have:=z0i hlt; omega
  subst ha2
  obtain⟨n1,n2⟩:=a84 (j7 E R M) (n:=E.length) (by omega)
  have h1:=a2v (j7 E R M) E.length E.length
  have h3:E.length * E.length≤64 * 64:=z3a (by omega) (by omega)
  rw[n1]
  simp only[z0f,n2]
  simp only[z0n,and_self,and_true,true_and]
  omega
def q49D (E:List Ev) (R:List Int) (M:List (List Int)):Prop:=p7 (({ calls:=[d0t,kPl (nmG E R M),c4u (no 12 ++ [some (.ps (b9 (j6 E R M) E.length E.length))]),kE1 81 wrE,kE1 80 rdE],inl:=[d0m 11,allI E.length (j6 E R M) 11 12,(106,{ fn:=Tryz.f106 })] }:Kit)).tab Tryz.f49 [grV E R M] (grM E R M) ((b09 E.length (b7 E.length (j6 E R M))).post EL)
theorem d7o (E:List Ev) (R:List Int) (M:List (List Int)):q49D E R M=(
 let a:=(↑E.length:Int)
 let b:=j6 E R M
 let c:=E.length=E.length∧R.length=R.length∧M.length=M.length
 let d:=(0:Int)
 let e:=a=a∧(True∧True)∧True∧True∧True∧True∧True∧a=a∧(a=a∧True)∧(True∧True)∧True∧True∧True∧True∧True∧True∧True∧True∧True
 let f:=bif d8 a (b9 b E.length E.length) then b7 a (d7 (b9 b E.length E.length)) else []
 let g:=c∧True∧True∧True∧c∧True∧True∧E.length=E.length∧a=a∧c∧(True∧True)∧(True∧True)∧True
 let h:=a3x E.length b (15:Nat) (11:Nat) (12:Nat)
 let i:=PLoop.of (a5t E.length b (9:Nat) (11:Nat) (12:Nat))
 let k:=d=d∧True
 let l:=AV.ps (b7 a b)
 let m:=(1099511627776:Nat)
 let n:=(1:Nat)
 E.length=E.length∧R.length=R.length∧M.length=M.length∧nE E∧nI R∧nR M∧((E.length≤m∧(M.length≤(8:Nat)→∀(r:List Int),List.Mem r M→r.length≤m))∧M.length≤(8:Nat))∧∀(us us_1:List Value) (cd:LupCd) (x:Option Addr × Nat),∃(x:PUnit),(∃(x:Nat),(x≤E.length∧True)∧(d=(↑x:Int)∧True)∧(a=a∧(0:Nat)=(b9 b E.length x).length)∧((0:Nat)=(b9 b E.length x).length∧(b9 b E.length x).length=(0:Nat)∧(b9 b E.length x).length=(0:Nat)∧True)∧True)∧∀(x_1:Nat),x_1≤E.length∧True→(decide ((↑x_1:Int) < a)=true→∃(x_2:Nat),(∃(x:Nat),(x≤E.length∧x_2 < E.length)∧(d=(↑x:Int)∧True)∧(a=a∧(b9 b E.length x_1).length=(b9 b E.length x_2 ++ d6 b x_2 x).length)∧((b9 b E.length x_1).length=(b9 b E.length x_2 ++ d6 b x_2 x).length∧(∀(j:Nat),j < (b9 b E.length x_2 ++ d6 b x_2 x).length→(b6 (d,d) (b9 b E.length x_1) j).fst=(b6 (d,d) (b9 b E.length x_2 ++ d6 b x_2 x) j).fst)∧(∀(j:Nat),j < (b9 b E.length x_2 ++ d6 b x_2 x).length→(b6 (d,d) (b9 b E.length x_1) j).snd=(b6 (d,d) (b9 b E.length x_2 ++ d6 b x_2 x) j).snd)∧True)∧True)∧∀(x_3:Nat),x_3≤E.length∧x_2 < E.length→(decide ((↑x_3:Int) < a)=true→∀(us_2:List Value),(d≤(↑x_1:Int)∧(↑x_1:Int) < a)∧x_1 < E.length∧(d≤(↑x_3:Int)∧(↑x_3:Int) < a)∧x_3 < E.length∧(((↑x_1:Int) !=(↑x_3:Int) && rdE (b6 e0 E x_1) && wrE (b6 e0 E x_3) && (b6 e0 E x_1).ob ==(b6 e0 E x_3).ob)=true→d≤(↑x_1:Int)∧(↑x_1:Int) < (↑R.length:Int))∧(((↑x_1:Int) !=(↑x_3:Int) && rdE (b6 e0 E x_1) && wrE (b6 e0 E x_3) && (b6 e0 E x_1).ob ==(b6 e0 E x_3).ob)=true→x_1 < R.length)∧(decide (b6 d R x_1 < d)=false→((↑x_1:Int)
 !=(↑x_3:Int) && rdE (b6 e0 E x_1) && wrE (b6 e0 E x_3) && (b6 e0 E x_1).ob ==(b6 e0 E x_3).ob)=true→d≤(↑x_1:Int)∧(↑x_1:Int) < (↑R.length:Int))∧(decide (b6 d R x_1 < d)=false→((↑x_1:Int) !=(↑x_3:Int) && rdE (b6 e0 E x_1) && wrE (b6 e0 E x_3) && (b6 e0 E x_1).ob ==(b6 e0 E x_3).ob)=true→x_1 < R.length)∧us_2=us_2∧(((↑x_1:Int) !=(↑x_3:Int) && rdE (b6 e0 E x_1) && wrE (b6 e0 E x_3) && (b6 e0 E x_1).ob ==(b6 e0 E x_3).ob && (decide (b6 d R x_1 < d) || decide (a1x (plM M (b6 d R x_1)) < a1x (plM M (↑x_3:Int)))))=true→∀(us_3:List Value),us_1=us_1∧cd=cd∧us_1=us_1∧us_1=us_1∧cd=cd∧(b9 b E.length x_2 ++ d6 b x_2 x_3).length=(b9 b E.length x_2 ++ d6 b x_2 x_3).length∧n=n∧((b9 b E.length x_2 ++ d6 b x_2 x_3).length + n) * (16:Nat)≤(140737488355328:Nat)∧(b9 b E.length x_2 ++ d6 b x_2 x_3).length + n≤(9223372036854775807:Nat)∧us_1=us_1∧cd=cd∧us_3=us_3∧∃(x:Nat),(x≤E.length∧x_2 < E.length)∧(h.ann x_2).mu x < (h.ann x_2).mu x_3∧(True∧True∧True∧(↑x_1:Int)=(↑x_1:Int)∧True∧E.length=E.length∧a=a∧(↑x_1:Int)=(↑x_1:Int)∧true=true∧(↑x_1:Int)=(↑x_1:Int)∧True∧E.length=E.length∧a=a∧IntKind.i64.wrap ((↑x_3:Int) + (1:Int))=(↑x:Int)∧True)∧eqA E.length (i6 E)∧eqA R.length (f7 R)∧eqA M.length (i4 M)∧c∧k∧(∀(x:Int),plM M x=plM M x)∧True∧c∧(True∧True)∧(g∧us=us)∧k∧(a=a∧(b9 b E.length x_2 ++ d6 b x_2 x_3).length + n=(b9 b E.length x_2 ++ d6 b x_2 x).length)∧((b9 b E.length x_2 ++ d6 b x_2 x_3).length + n=(b9 b E.length x_2 ++ d6 b x_2 x).length∧(∀(j:Nat),j < (b9 b E.length x_2 ++ d6 b x_2 x).length→(bif j.blt (b9
 b E.length x_2 ++ d6 b x_2 x_3).length then(b6 (d,d) (b9 b E.length x_2 ++ d6 b x_2 x_3) j).fst else d9 [(↑x_1:Int)] (j - (b9 b E.length x_2 ++ d6 b x_2 x_3).length))=(b6 (d,d) (b9 b E.length x_2 ++ d6 b x_2 x) j).fst)∧(∀(j:Nat),j < (b9 b E.length x_2 ++ d6 b x_2 x).length→(bif j.blt (b9 b E.length x_2 ++ d6 b x_2 x_3).length then(b6 (d,d) (b9 b E.length x_2 ++ d6 b x_2 x_3) j).snd else d9 [(↑x_3:Int)] (j - (b9 b E.length x_2 ++ d6 b x_2 x_3).length))=(b6 (d,d) (b9 b E.length x_2 ++ d6 b x_2 x) j).snd)∧True)∧(e∧us_1=us_1)∧(us_1=us_1∧cd=cd)∧True)∧(((↑x_1:Int) !=(↑x_3:Int) && rdE (b6 e0 E x_1) && wrE (b6 e0 E x_3) && (b6 e0 E x_1).ob ==(b6 e0 E x_3).ob && (decide (b6 d R x_1 < d) || decide (a1x (plM M (b6 d R x_1)) < a1x (plM M (↑x_3:Int))))) =!true→∃(x:Nat),(x≤E.length∧x_2 < E.length)∧(h.ann x_2).mu x < (h.ann x_2).mu x_3∧(True∧True∧True∧(↑x_1:Int)=(↑x_1:Int)∧True∧E.length=E.length∧a=a∧(↑x_1:Int)=(↑x_1:Int)∧true=true∧(↑x_1:Int)=(↑x_1:Int)∧True∧E.length=E.length∧a=a∧IntKind.i64.wrap ((↑x_3:Int) + (1:Int))=(↑x:Int)∧True)∧eqA E.length (i6 E)∧eqA R.length (f7 R)∧eqA M.length (i4 M)∧c∧k∧(∀(x:Int),plM M x=plM M x)∧True∧c∧(True∧True)∧(g∧us=us)∧k∧(a=a∧(b9 b E.length x_2 ++ d6 b x_2 x_3).length=(b9 b E.length x_2 ++ d6 b x_2 x).length)∧((b9 b E.length x_2 ++ d6 b x_2 x_3).length=(b9 b E.length x_2 ++ d6 b x_2 x).length∧(∀(j:Nat),j < (b9 b E.length x_2 ++ d6 b x_2 x).length→(b6 (d,d) (b9 b E.length x_2 ++ d6 b x_2 x_3) j).fst=(b6 (d,d) (b9 b E.length x_2 ++ d6 b x_2 x)
 j).fst)∧(∀(j:Nat),j < (b9 b E.length x_2 ++ d6 b x_2 x).length→(b6 (d,d) (b9 b E.length x_2 ++ d6 b x_2 x_3) j).snd=(b6 (d,d) (b9 b E.length x_2 ++ d6 b x_2 x) j).snd)∧True)∧(e∧us_1=us_1)∧(us_1=us_1∧cd=cd)∧True))∧(decide ((↑x_3:Int) < a)=false→∃(x_4:Nat),(x_4≤E.length∧True)∧(i.ann x).mu x_4 < (i.ann x).mu x_1∧(True∧True∧True∧True∧E.length=E.length∧a=a∧IntKind.i64.wrap ((↑x_1:Int) + (1:Int))=(↑x_4:Int)∧True)∧eqA E.length (i6 E)∧eqA R.length (f7 R)∧eqA M.length (i4 M)∧c∧k∧(∀(x:Int),plM M x=plM M x)∧True∧c∧(True∧True)∧(g∧us=us)∧k∧(a=a∧(b9 b E.length x_2 ++ d6 b x_2 x_3).length=(b9 b E.length x_4).length)∧((b9 b E.length x_2 ++ d6 b x_2 x_3).length=(b9 b E.length x_4).length∧(∀(j:Nat),j < (b9 b E.length x_4).length→(b6 (d,d) (b9 b E.length x_2 ++ d6 b x_2 x_3) j).fst=(b6 (d,d) (b9 b E.length x_4) j).fst)∧(∀(j:Nat),j < (b9 b E.length x_4).length→(b6 (d,d) (b9 b E.length x_2 ++ d6 b x_2 x_3) j).snd=(b6 (d,d) (b9 b E.length x_4) j).snd)∧True)∧(e∧us_1=us_1)∧(us_1=us_1∧cd=cd)∧True))∧(decide ((↑x_1:Int) < a)=false→us_1=us_1∧us_1=us_1∧cd=cd∧(b9 b E.length x_1).length=(b9 b E.length x_1).length∧mkN (fun(j:Nat)=>((b6 (d,d) (b9 b E.length x_1) j).fst,(b6 (d,d) (b9 b E.length x_1) j).snd)) (b9 b E.length x_1).length=b9 b E.length E.length∧(b9 b E.length E.length).length≤m∧us=us∧(AV.ps f).len=l.len∧((∀(j:Nat),j < l.len→(b6 (d,d) f j).fst=(b6 (d,d) (b7 a b) j).fst)∧(∀(j:Nat),j < l.len→(b6 (d,d) f j).snd=(b6 (d,d) (b7 a b) j).snd)∧True)∧(bif d8 a (b9 b E.length E.length) then a else
 d)=a∧(AV.ps f).len=l.len∧True)):=by kernel_rfl
theorem v49 (E:List Ev) (R:List Int) (M:List (List Int)) (h:pgF E R M 0 0):q49D E R M:=by
 rw[d7o]
 have h64:(E.length:Int)≤64:=h.1
 have hR:R.length=E.length:=h.2.1
 have hlen:=b6b (j6 E R M) (n:=E.length) (by omega)
 simp only[eq_self,true_and,and_true,z0n,imp_self,l9,m6,n5,g7,g8,PLoop.of,q6,AV.len,g9,z0s,i9,j4,j5,l5,l6,l7,a5t,a3x,PLoop.of,n5]
 refine⟨⟨⟨h.2.2.1.1,h.2.2.1.2⟩,h.2.2.2⟩,fun cd=>⟨(),⟨0,by simp,rfl,?_⟩,fun a ha=>⟨fun hlt=>⟨a,⟨0,?_⟩,fun b hb=>⟨fun hlb=>⟨⟨by have:=z0e hlt; have:=z0e hlb; omega,by have:=z0e hlt; have:=z0e hlb; omega⟩,(by have:=z0e hlt; have:=z0e hlb; omega),⟨by have:=z0e hlt; have:=z0e hlb; omega,by have:=z0e hlt; have:=z0e hlb; omega⟩,(by have:=z0e hlt; have:=z0e hlb; omega),(fun _=>⟨by have:=z0e hlt; have:=z0e hlb; omega,by have:=z0e hlt; have:=z0e hlb; omega⟩),(fun _=>by have:=z0e hlt; have:=z0e hlb; omega),(fun _ _=>⟨by have:=z0e hlt; have:=z0e hlb; omega,by have:=z0e hlt; have:=z0e hlb; omega⟩),(fun _ _=>by have:=z0e hlt; have:=z0e hlb; omega),fun hf=>?_,fun hf=>?_⟩,fun hlb=>?_⟩⟩,fun hlt=>?_⟩⟩⟩
 ·simp[a2k]
 ·have ha2:a < E.length:=by have:=z0e hlt; omega
  simp[a44,ha2]
 ·have hb2:b < E.length:=by have:=z0e hlb; omega
  have h1:=hlen a b hb.2 hb.1
  replace hf:(j6 E R M) a b=true:=hf
  have e:d6 (j6 E R M) a (b + 1)=d6 (j6 E R M) a b ++ [((a:Int),(b:Int))]:=by rw[a04,if_pos hf]
  have e2:b9 (j6 E R M) E.length a ++ d6 (j6 E R M) a (b + 1)=(b9 (j6 E R M) E.length a ++ d6 (j6 E R M) a b) ++ [((a:Int),(b:Int))]:=by rw[e,z1z]
  refine⟨by omega,by omega,b + 1,⟨by omega,hb.2⟩,by omega,wrS (n:=E.length) hb2 (by omega),?_⟩
  rw[e2]
  have e3:(b9 (j6 E R M) E.length a ++ d6 (j6 E R M) a b ++ [((a:Int),(b:Int))]).length=(b9 (j6 E R M) E.length a ++ d6 (j6 E R M) a b).length + 1:=by rw[z0x (bs:=[((a:Int),(b:Int))])]; rfl
  exact⟨e3.symm,e3.symm,ap1 (·.1) _ _,ap1 (·.2) _ _⟩
 ·have hb2:b < E.length:=by have:=z0e hlb; omega
  replace hf:(j6 E R M) a b=false:=hf
  have e:d6 (j6 E R M) a (b + 1)=d6 (j6 E R M) a b:=by rw[a04,if_neg (by rw[hf]; simp),z1f]
  refine⟨b + 1,⟨by omega,hb.2⟩,by omega,wrS (n:=E.length) hb2 (by omega),?_⟩
  rw[e]
  simp
 ·have hb2:b=E.length:=by have:=z0i hlb; omega
  have e:b9 (j6 E R M) E.length (a + 1)=b9 (j6 E R M) E.length a ++ d6 (j6 E R M) a b:=by rw[a1e,hb2]
  refine⟨a + 1,by omega,by omega,wrS (n:=E.length) hb.2 (by omega),?_⟩
  rw[e]
  simp
 ·have ha2:a=E.length:=by have:=z0i hlt; omega
  subst ha2
  obtain⟨n1,n2⟩:=a84 (j6 E R M) (n:=E.length) (by omega)
  have h1:=a2v (j6 E R M) E.length E.length
  have h3:E.length * E.length≤64 * 64:=z3a (by omega) (by omega)
  rw[n1]
  simp only[z0f,n2]
  simp only[z0n,and_self,and_true,true_and]
  omega
theorem n62 (nm:List (Option AV)):CallOk Tryz.prog [] 62 (o5 EL none nm [PG] (a78 pgM j7)):=x4 Tryz.func62 fo62 fun av pre rv h=>by
 unfold a78 at h; split at h <;> cases h
 exact⟨⟨rfl,fun t a e=>by cases e <;> exact z0h _ _⟩,fun hp=>⟨_,v62 _ _ _ (hp _ (.head _)),rfl,(m9 d17 (m9 (n104 _) (m9 (c5f _) (m9 (n81 _) t9)))),(a3s d0r (a3s c3e (a3s e0d u4)))⟩⟩
theorem n49 (nm:List (Option AV)):CallOk Tryz.prog [] 49 (o5 EL none nm [PG] (a78 pgF j6)):=x4 Tryz.func49 fo49 fun av pre rv h=>by
 unfold a78 at h; split at h <;> cases h
 exact⟨⟨rfl,fun t a e=>by cases e <;> exact z0h _ _⟩,fun hp=>⟨_,v49 _ _ _ (hp _ (.head _)),rfl,(m9 d17 (m9 (n104 _) (m9 (c5f _) (m9 (n81 _) (m9 (n80 _) t9))))),(a3s d0r (a3s c3e (a3s e0b u4)))⟩⟩
def i5:GF:=fun E _ _ i k=>decide (i < k) && b0e (evA E i) (evA E k)
def c50 (n:Nat) (f:Pf) (t c e:Nat):PLoop:=⟨Nat,fun a=>{ X:=Nat,inv:=fun b=>a < n∧a + 1≤b∧b≤n,slots:=fun b=>[(t,.i .i64 (b:Int))],mem:=fun b=>[(c,.cells [.i .i64 (n:Int),.sl e (b9 f n a ++ d6 f a b).length]),b9x e (b9 f n a ++ d6 f a b)],mu:=fun b=>n - b,kill:=[e] }⟩
noncomputable def lisI (n:Nat) (f:Pf) (c e:Nat):Nat × Inl:=(112,{ fn:=Tryz.f112,loops:=[(0,.of (a5t n f 10 c e)),(2,c50 n f 6 c e)] })
def PL:PK:=.cl 112 58 [.es,.is,.rs]
def d68:SpG:=fun
 | [.lf (.i n),.cl 112 58 [.es E,.is R,.rs M]]=>some ([n=E.length∧(E.length:Int)≤64],b09 E.length (b7 E.length (i5 E R M)))
 | _=>none
def kCol (nm:List (Option AV)):Nat × (List MBlk→List SV→Option AR):=(56,o5 EL none nm [.lf .i,PL] d68)
def e0h:Nat × (List MBlk→List SV→Option AR):=kE2 58 b0e
def liM (E:List Ev) (R:List Int) (M:List (List Int)):List MBlk:=[.old [.sl 2 E.length,.sl 3 R.length,.sl 4 M.length],.old [.fn 58 []],.arr E.length (i6 E),.arr R.length (f7 R),.arr M.length (i4 M)]
theorem d6q {E:List Ev} {R:List Int} {M:List (List Int)} {i k:Int} (h:k≤i):i5 E R M i k=false:=by
 have:decide (i < k)=false:=by simpa using h
 simp only[i5,this,Bool.false_and]
theorem c5z {f:Pf} {a:Nat}:∀ {b:Nat},(∀ j:Nat,j < b→f a j=false)→d6 f a b=[]:=by
 intro b
 induction b with
 | zero=>intro _; exact a44 f a
 | succ b ih=>intro h; rw[a04,ih fun j hj=>h j (by omega),h b (by omega)]; simp
theorem d97:p8 Tryz.prog 112:=⟨Tryz.f112,Tryz.func112,by kernel_rfl,by kernel_rfl⟩
theorem e0c {l:List (Nat × PLoop)} {t:List (Nat × (List Slot→List MBlk→List Gh))} {s:List Nat}:a26 (112,⟨Tryz.f112,l,t,s⟩):=⟨Tryz.func112,d97⟩
def q56D (E:List Ev) (R:List Int) (M:List (List Int)) (n:Int):Prop:=p7 (({ calls:=[e0h,c4u (no 7 ++ [some (.ps (b9 (i5 E R M) E.length E.length))])],inl:=[lisI E.length (i5 E R M) 6 7],takes:=[(2,fun _ _=>[.fresh 6 1 67 2])] }:Kit)).tab Tryz.f56 [.i .i64 n,.fn 112 [.ptr 0 0,.ptr 1 0]] (liM E R M) ((b09 E.length (b7 E.length (i5 E R M))).post EL)
theorem d7t (E:List Ev) (R:List Int) (M:List (List Int)) (n:Int):q56D E R M n=(
 let a:=i5 E R M
 let b:=(↑E.length:Int)
 let c:=((0:Int),(0:Int))
 let d:=n=n∧(True∧True)∧True∧True∧True∧True∧True∧n=n∧(n=n∧True)∧(True∧True)∧True∧True∧True∧True∧True∧True∧True∧True∧True
 let e:=bif d8 b (b9 a E.length E.length) then b7 b (d7 (b9 a E.length E.length)) else []
 let f:=c50 E.length a (6:Nat) (6:Nat) (7:Nat)
 let g:=E.length=E.length∧R.length=R.length∧M.length=M.length
 let h:=PLoop.of (a5t E.length a (10:Nat) (6:Nat) (7:Nat))
 let i:=(0:Int)
 let l:=(1:Nat)
 let m:=AV.ps (b7 b a)
 let o:=(1:Int)
 ∀(us:List Value) (cd:LupCd) (x:Option Addr × Nat),∃(x:PUnit),(∃(x:Nat),(x≤E.length∧True)∧(i=(↑x:Int)∧True)∧(n=b∧(0:Nat)=(b9 a E.length x).length)∧((0:Nat)=(b9 a E.length x).length∧(b9 a E.length x).length=(0:Nat)∧(b9 a E.length x).length=(0:Nat)∧True)∧True)∧∀(x_1:Nat),x_1≤E.length∧True→(decide ((↑x_1:Int) < b)=true→(i≤(↑x_1:Int)∧(↑x_1:Int) < b)∧x_1 < E.length∧∃(x_2:Nat),(∃(x:Nat),(x_2 < E.length∧x_2 + l≤x∧x≤E.length)∧(IntKind.i64.wrap ((↑x_1:Int) + o)=(↑x:Int)∧True)∧(b=b∧(b9 a E.length x_1).length=(b9 a E.length x_2 ++ d6 a x_2 x).length)∧((b9 a E.length x_1).length=(b9 a E.length x_2 ++ d6 a x_2 x).length∧(∀(j:Nat),j < (b9 a E.length x_2 ++ d6 a x_2 x).length→(b6 c (b9 a E.length x_1) j).fst=(b6 c (b9 a E.length x_2 ++ d6 a x_2 x) j).fst)∧(∀(j:Nat),j < (b9 a E.length x_2 ++ d6 a x_2 x).length→(b6 c (b9 a E.length x_1) j).snd=(b6 c (b9 a E.length x_2 ++ d6 a x_2 x) j).snd)∧True)∧True)∧∀(x_3:Nat),x_2 < E.length∧x_2 + l≤x_3∧x_3≤E.length→(decide ((↑x_3:Int) < b)=true→(i≤(↑x_3:Int)∧(↑x_3:Int) < b)∧x_3 < E.length∧(b0e (b6 e0 E x_1) (b6 e0 E x_3)=true→∀(us_1:List Value),us=us∧cd=cd∧us=us∧us=us∧cd=cd∧(b9 a E.length x_2 ++ d6 a x_2 x_3).length=(b9 a E.length x_2 ++ d6 a x_2 x_3).length∧l=l∧((b9 a E.length x_2 ++ d6 a x_2 x_3).length + l) * (16:Nat)≤(140737488355328:Nat)∧(b9 a E.length x_2 ++ d6 a x_2 x_3).length + l≤(9223372036854775807:Nat)∧us=us∧cd=cd∧us_1=us_1∧∃(x:Nat),(x_2 < E.length∧x_2 + l≤x∧x≤E.length)∧(f.ann x_2).mu x < (f.ann x_2).mu
 x_3∧(True∧True∧True∧(↑x_1:Int)=(↑x_1:Int)∧True∧IntKind.i64.wrap ((↑x_3:Int) + o)=(↑x:Int)∧True∧E.length=E.length∧b=b∧(↑x_1:Int)=(↑x_1:Int)∧true=true∧(↑x_1:Int)=(↑x_1:Int)∧x_1=x_1∧((b6 e0 E x_1).ag=(b6 e0 E x_1).ag∧(b6 e0 E x_1).ix=(b6 e0 E x_1).ix∧(b6 e0 E x_1).k=(b6 e0 E x_1).k∧(b6 e0 E x_1).ob=(b6 e0 E x_1).ob∧(b6 e0 E x_1).mu=(b6 e0 E x_1).mu∧(b6 e0 E x_1).en=(b6 e0 E x_1).en∧(b6 e0 E x_1).od=(b6 e0 E x_1).od∧(b6 e0 E x_1).rd=(b6 e0 E x_1).rd∧(b6 e0 E x_1).wr=(b6 e0 E x_1).wr)∧(↑x_1:Int)=(↑x_1:Int)∧IntKind.i64.wrap ((↑x_1:Int) + o)=IntKind.i64.wrap ((↑x_1:Int) + o)∧True)∧g∧True∧eqA E.length (i6 E)∧eqA R.length (f7 R)∧eqA M.length (i4 M)∧(i=i∧True)∧(b=b∧(b9 a E.length x_2 ++ d6 a x_2 x_3).length + l=(b9 a E.length x_2 ++ d6 a x_2 x).length)∧((b9 a E.length x_2 ++ d6 a x_2 x_3).length + l=(b9 a E.length x_2 ++ d6 a x_2 x).length∧(∀(j:Nat),j < (b9 a E.length x_2 ++ d6 a x_2 x).length→(bif j.blt (b9 a E.length x_2 ++ d6 a x_2 x_3).length then(b6 c (b9 a E.length x_2 ++ d6 a x_2 x_3) j).fst else d9 [(↑x_1:Int)] (j - (b9 a E.length x_2 ++ d6 a x_2 x_3).length))=(b6 c (b9 a E.length x_2 ++ d6 a x_2 x) j).fst)∧(∀(j:Nat),j < (b9 a E.length x_2 ++ d6 a x_2 x).length→(bif j.blt (b9 a E.length x_2 ++ d6 a x_2 x_3).length then(b6 c (b9 a E.length x_2 ++ d6 a x_2 x_3) j).snd else d9 [(↑x_3:Int)] (j - (b9 a E.length x_2 ++ d6 a x_2 x_3).length))=(b6 c (b9 a E.length x_2 ++ d6 a x_2 x) j).snd)∧True)∧(d∧us=us)∧(us=us∧cd=cd)∧((b6 e0 E x_1).ag=(b6 e0 E x_1).ag∧(b6 e0 E x_1).ix=(b6 e0 E
 x_1).ix∧(b6 e0 E x_1).k=(b6 e0 E x_1).k∧(b6 e0 E x_1).ob=(b6 e0 E x_1).ob∧(b6 e0 E x_1).mu=(b6 e0 E x_1).mu∧(b6 e0 E x_1).en=(b6 e0 E x_1).en∧(b6 e0 E x_1).od=(b6 e0 E x_1).od∧(b6 e0 E x_1).rd=(b6 e0 E x_1).rd∧(b6 e0 E x_1).wr=(b6 e0 E x_1).wr)∧True)∧(b0e (b6 e0 E x_1) (b6 e0 E x_3) =!true→∃(x:Nat),(x_2 < E.length∧x_2 + l≤x∧x≤E.length)∧(f.ann x_2).mu x < (f.ann x_2).mu x_3∧(True∧True∧True∧(↑x_1:Int)=(↑x_1:Int)∧True∧IntKind.i64.wrap ((↑x_3:Int) + o)=(↑x:Int)∧True∧E.length=E.length∧b=b∧(↑x_1:Int)=(↑x_1:Int)∧true=true∧(↑x_1:Int)=(↑x_1:Int)∧x_1=x_1∧((b6 e0 E x_1).ag=(b6 e0 E x_1).ag∧(b6 e0 E x_1).ix=(b6 e0 E x_1).ix∧(b6 e0 E x_1).k=(b6 e0 E x_1).k∧(b6 e0 E x_1).ob=(b6 e0 E x_1).ob∧(b6 e0 E x_1).mu=(b6 e0 E x_1).mu∧(b6 e0 E x_1).en=(b6 e0 E x_1).en∧(b6 e0 E x_1).od=(b6 e0 E x_1).od∧(b6 e0 E x_1).rd=(b6 e0 E x_1).rd∧(b6 e0 E x_1).wr=(b6 e0 E x_1).wr)∧(↑x_1:Int)=(↑x_1:Int)∧IntKind.i64.wrap ((↑x_1:Int) + o)=IntKind.i64.wrap ((↑x_1:Int) + o)∧True)∧g∧True∧eqA E.length (i6 E)∧eqA R.length (f7 R)∧eqA M.length (i4 M)∧(i=i∧True)∧(b=b∧(b9 a E.length x_2 ++ d6 a x_2 x_3).length=(b9 a E.length x_2 ++ d6 a x_2 x).length)∧((b9 a E.length x_2 ++ d6 a x_2 x_3).length=(b9 a E.length x_2 ++ d6 a x_2 x).length∧(∀(j:Nat),j < (b9 a E.length x_2 ++ d6 a x_2 x).length→(b6 c (b9 a E.length x_2 ++ d6 a x_2 x_3) j).fst=(b6 c (b9 a E.length x_2 ++ d6 a x_2 x) j).fst)∧(∀(j:Nat),j < (b9 a E.length x_2 ++ d6 a x_2 x).length→(b6 c (b9 a E.length x_2 ++ d6 a x_2 x_3) j).snd=(b6 c (b9 a E.length x_2 ++ d6 a x_2
 x) j).snd)∧True)∧(d∧us=us)∧(us=us∧cd=cd)∧((b6 e0 E x_1).ag=(b6 e0 E x_1).ag∧(b6 e0 E x_1).ix=(b6 e0 E x_1).ix∧(b6 e0 E x_1).k=(b6 e0 E x_1).k∧(b6 e0 E x_1).ob=(b6 e0 E x_1).ob∧(b6 e0 E x_1).mu=(b6 e0 E x_1).mu∧(b6 e0 E x_1).en=(b6 e0 E x_1).en∧(b6 e0 E x_1).od=(b6 e0 E x_1).od∧(b6 e0 E x_1).rd=(b6 e0 E x_1).rd∧(b6 e0 E x_1).wr=(b6 e0 E x_1).wr)∧True))∧(decide ((↑x_3:Int) < b)=false→∃(x_4:Nat),(x_4≤E.length∧True)∧(h.ann x).mu x_4 < (h.ann x).mu x_1∧(True∧True∧True∧True∧E.length=E.length∧b=b∧IntKind.i64.wrap ((↑x_1:Int) + o)=(↑x_4:Int)∧True)∧g∧True∧eqA E.length (i6 E)∧eqA R.length (f7 R)∧eqA M.length (i4 M)∧(i=i∧True)∧(b=b∧(b9 a E.length x_2 ++ d6 a x_2 x_3).length=(b9 a E.length x_4).length)∧((b9 a E.length x_2 ++ d6 a x_2 x_3).length=(b9 a E.length x_4).length∧(∀(j:Nat),j < (b9 a E.length x_4).length→(b6 c (b9 a E.length x_2 ++ d6 a x_2 x_3) j).fst=(b6 c (b9 a E.length x_4) j).fst)∧(∀(j:Nat),j < (b9 a E.length x_4).length→(b6 c (b9 a E.length x_2 ++ d6 a x_2 x_3) j).snd=(b6 c (b9 a E.length x_4) j).snd)∧True)∧(d∧us=us)∧(us=us∧cd=cd)∧True))∧(decide ((↑x_1:Int) < b)=false→us=us∧us=us∧cd=cd∧(b9 a E.length x_1).length=(b9 a E.length x_1).length∧mkN (fun(j:Nat)=>((b6 c (b9 a E.length x_1) j).fst,(b6 c (b9 a E.length x_1) j).snd)) (b9 a E.length x_1).length=b9 a E.length E.length∧(b9 a E.length E.length).length≤(1099511627776:Nat)∧(AV.ps e).len=m.len∧((∀(j:Nat),j < m.len→(b6 c e j).fst=(b6 c (b7 b a) j).fst)∧(∀(j:Nat),j < m.len→(b6 c e j).snd=(b6 c (b7 b a) j).snd)∧True)∧(bif d8 b
 (b9 a E.length E.length) then b else i)=b∧(AV.ps e).len=m.len∧True)):=by kernel_rfl
theorem v56 (E:List Ev) (R:List Int) (M:List (List Int)) (n:Int) (h:n=E.length∧(E.length:Int)≤64):q56D E R M n:=by
 rw[d7t]
 have h64:(E.length:Int)≤64:=h.2
 have hn:=h.1
 subst hn
 have hlen:=b6b (i5 E R M) (n:=E.length) (by omega)
 simp only[eq_self,true_and,and_true,z0n,imp_self,l9,m6,n5,g7,g8,PLoop.of,q6,AV.len,g9,z0s,i9,j4,j5,l5,l6,l7,a5t,c50,PLoop.of,n5]
 refine fun cd=>⟨(),⟨0,by simp,rfl,?_⟩,fun a ha=>⟨fun hlt=>⟨⟨by omega,z0e hlt⟩,?_,a,⟨a + 1,?_⟩,fun b hb=>⟨fun hlb=>⟨⟨by omega,z0e hlb⟩,?_,fun hf=>?_,fun hf=>?_⟩,fun hlb=>?_⟩⟩,fun hlt=>?_⟩⟩
 ·simp[a2k]
 ·have:=z0e hlt; omega
 ·have ha2:a < E.length:=by have:=z0e hlt; omega
  have e:d6 (i5 E R M) a (a + 1)=[]:=c5z fun j hj=>d6q (by omega)
  rw[e,z1f]
  exact⟨⟨ha2,by omega,by omega⟩,wrS (n:=E.length) ha2 (by omega),rfl,rfl,fun _ _=>rfl,fun _ _=>rfl⟩
 ·have:=z0e hlb; omega
 ·have hb2:b < E.length:=by have:=z0e hlb; omega
  have h1:=hlen a b hb.1 hb.2.2
  replace hf:(i5 E R M) a b=true:=by
   have:decide ((a:Int) < (b:Int))=true:=by simp; omega
   simp only[i5,this,z1h]; exact hf
  have e:d6 (i5 E R M) a (b + 1)=d6 (i5 E R M) a b ++ [((a:Int),(b:Int))]:=by rw[a04,if_pos hf]
  have e2:b9 (i5 E R M) E.length a ++ d6 (i5 E R M) a (b + 1)=(b9 (i5 E R M) E.length a ++ d6 (i5 E R M) a b) ++ [((a:Int),(b:Int))]:=by rw[e,z1z]
  refine⟨by omega,by omega,b + 1,⟨hb.1,by omega,by omega⟩,by omega,wrS (n:=E.length) hb2 (by omega),?_⟩
  rw[e2]
  have e3:(b9 (i5 E R M) E.length a ++ d6 (i5 E R M) a b ++ [((a:Int),(b:Int))]).length=(b9 (i5 E R M) E.length a ++ d6 (i5 E R M) a b).length + 1:=by rw[z0x (bs:=[((a:Int),(b:Int))])]; rfl
  exact⟨e3.symm,e3.symm,ap1 (·.1) _ _,ap1 (·.2) _ _⟩
 ·have hb2:b < E.length:=by have:=z0e hlb; omega
  replace hf:(i5 E R M) a b=false:=by
   have:decide ((a:Int) < (b:Int))=true:=by simp; omega
   simp only[i5,this,z1h]; exact hf
  have e:d6 (i5 E R M) a (b + 1)=d6 (i5 E R M) a b:=by rw[a04,if_neg (by rw[hf]; simp),z1f]
  refine⟨b + 1,⟨hb.1,by omega,by omega⟩,by omega,wrS (n:=E.length) hb2 (by omega),?_⟩
  rw[e]
  simp
 ·have hb2:b=E.length:=by have:=z0i hlb; omega
  have e:b9 (i5 E R M) E.length (a + 1)=b9 (i5 E R M) E.length a ++ d6 (i5 E R M) a b:=by rw[a1e,hb2]
  refine⟨a + 1,by omega,by omega,wrS (n:=E.length) hb.1 (by omega),?_⟩
  rw[e]
  simp
 ·have ha2:a=E.length:=by have:=z0i hlt; omega
  subst ha2
  obtain⟨n1,n2⟩:=a84 (i5 E R M) (n:=E.length) (by omega)
  have h1:=a2v (i5 E R M) E.length E.length
  have h3:E.length * E.length≤64 * 64:=z3a (by omega) (by omega)
  rw[n1]
  simp only[z0f,n2]
  simp only[z0n,and_self,and_true,true_and]
  omega
theorem n56 (nm:List (Option AV)):CallOk Tryz.prog [] 56 (o5 EL none nm [.lf .i,PL] d68):=x4 Tryz.func56 fo56 fun av pre rv h=>by
 unfold d68 at h; split at h <;> cases h
 exact⟨⟨rfl,fun t a e=>by cases e <;> exact z0h _ _⟩,fun hp=>⟨_,v56 _ _ _ _ (hp _ (.head _)),rfl,(m9 (n58 _) (m9 (c5f _) t9)),(a3s e0c u4)⟩⟩
def a38 (R:List Int) (x:Int):Nat→List Int
 | 0=>[]
 | s + 1=>a38 R x s ++ [atF R x s]
def a7g (R:List Int) (x:Int) (s:Nat):Bool:=decide (atF R x s < 0) || (a38 R x s).contains (atF R x s)
def chS (R:List Int) (x:Int):Nat→Nat→Nat
 | 0,s=>s
 | f + 1,s=>bif a7g R x s then s else chS R x f (s + 1)
def swR (E:List Ev) (R:List Int) (x:Int) (k:Int):Nat→List Pq
 | 0=>[]
 | s + 1=>bif (evA E (atF R x s)).od == 2 then swR E R x k s ++ [(atF R x s,k)] else swR E R x k s
def swK (E:List Ev) (R:List Int) (k:Int):List Pq:=bif !rdE (evA E k) || (evA E k).od != 2 then [] else swR E R (inA R k) k (chS R (inA R k) (E.length + 1) 0)
def swP (E:List Ev) (R:List Int):Nat→List Pq
 | 0=>[]
 | k + 1=>swP E R k ++ swK E R k
def y9:GF:=fun E R _=>d7 (swP E R E.length)
def chIn (E:List Ev) (R:List Int) (k s:Nat):Prop:=k < E.length∧rdE (evA E k)=true∧(evA E k).od=2∧(∀ j:Nat,j < s→0≤atF R (inA R k) j∧atF R (inA R k) j < E.length)∧(a38 R (inA R k) s).Nodup∧chS R (inA R k) (E.length + 1) 0=chS R (inA R k) (E.length + 1 - s) s
def lSw (E:List Ev) (R:List Int) (t c e:Nat):LAnn:=q6 E.length t (fun _=>True) (fun k=>[(c,.cells [.i .i64 (E.length:Int),.sl e (swP E R k).length]),b9x e (swP E R k)]) [e]
def lCh (E:List Ev) (R:List Int) (t c e r:Nat):PLoop:=⟨Nat,fun k=>{ X:=Nat,inv:=chIn E R k,slots:=fun s=>[(t,.i .i64 (atF R (inA R k) s))],mem:=fun s=>[(c,.cells [.i .i64 (E.length:Int),.sl e (swP E R k ++ swR E R (inA R k) k s).length]),b9x e (swP E R k ++ swR E R (inA R k) k s),(r,.mapi .i64 none (a2u (a38 R (inA R k) s)))],mu:=fun s=>E.length + 1 - s,kill:=[e] }⟩
noncomputable def chI (E:List Ev) (R:List Int) (c e r:Nat):Nat × Inl:=(146,{ fn:=Tryz.f146,loops:=[(0,lCh E R 5 c e r)] })
def kChn:Nat × (List MBlk→List SV→Option AR):=(108,b7b)
def pgS:GP:=fun E R _ _ _=>(E.length:Int)≤64∧b31 E R
end Go.Proofs.YtaeeaniofljmnaaGreatDoor
