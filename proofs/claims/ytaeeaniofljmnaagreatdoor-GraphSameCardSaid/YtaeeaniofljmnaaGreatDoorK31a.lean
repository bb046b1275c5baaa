/-
  A part of the proof (K31a).
-/
import Derived.Test.YtaeeaniofljmnaaGreatDoorK27a
import Derived.Test.YtaeeaniofljmnaaGreatDoorKV3
namespace Go.Proofs.YtaeeaniofljmnaaGreatDoor
set_option linter.unusedSimpArgs false
set_option linter.unusedVariables false
open Go Go.Proofs.YtaeeaniofljmnaaGreatDoor.Sx
set_option maxRecDepth 100000
def pgM:GP:=fun E _ M _ _=>(E.length:Int)≤64∧SzG E M∧M.length≤8
def pgF:GP:=fun E R M _ _=>(E.length:Int)≤64∧R.length=E.length∧SzG E M∧M.length≤8
def a7h (pc:GP) (fn:GF):SpG:=fun
 | [.ag [.es E,.is R,.rs M]]=>some ([pc E R M 0 0],b0u E.length (b9 E.length (fn E R M)))
 | _=>none
theorem fo62:s5 Tryz.prog 62:=⟨Tryz.f62,Tryz.func62,by kernel_rfl,by kernel_rfl⟩
theorem fo49:s5 Tryz.prog 49:=⟨Tryz.f49,Tryz.func49,by kernel_rfl,by kernel_rfl⟩
theorem e0k:s5 Tryz.prog 118:=⟨Tryz.f118,Tryz.func118,by kernel_rfl,by kernel_rfl⟩
theorem e1j {l:List (Nat × PLoop)} {t:List (Nat × (List Slot→List MBlk→List Gh))} {s:List Nat}:a2x (118,⟨Tryz.f118,l,t,s⟩):=⟨Tryz.func118,e0k⟩
theorem e0a:s5 Tryz.prog 106:=⟨Tryz.f106,Tryz.func106,by kernel_rfl,by kernel_rfl⟩
theorem e1i {l:List (Nat × PLoop)} {t:List (Nat × (List Slot→List MBlk→List Gh))} {s:List Nat}:a2x (106,⟨Tryz.f106,l,t,s⟩):=⟨Tryz.func106,e0a⟩
def q62D (E:List Ev) (R:List Int) (M:List (List Int)):Prop:=s4 (({ calls:=[d20,kPl (nmG E R M),c5v (no 12 ++ [some (.ps (d8 (l8 E R M) E.length E.length))]),kE1 81 wrE],inl:=[d1u 11,allI E.length (l8 E R M) 11 12,(118,{ fn:=Tryz.f118 })] }:Kit)).tab Tryz.f62 [grV E R M] (grM E R M) ((b0u E.length (b9 E.length (l8 E R M))).post EL)
theorem d96 (E:List Ev) (R:List Int) (M:List (List Int)):q62D E R M=(
 let a:=(↑E.length:Int)
 let b:=l8 E R M
 let c:=E.length=E.length∧R.length=R.length∧M.length=M.length
 let d:=((0:Int),(0:Int))
 let e:=a=a∧(True∧True)∧True∧True∧True∧True∧True∧a=a∧(a=a∧True)∧(True∧True)∧True∧True∧True∧True∧True∧True∧True∧True∧True
 let f:=bif g7 a (d8 b E.length E.length) then b9 a (f7 (d8 b E.length E.length)) else []
 let g:=c∧True∧True∧True∧c∧True∧True∧E.length=E.length∧a=a∧c∧(True∧True)∧(True∧True)∧True
 let h:=a44 E.length b (15:Nat) (11:Nat) (12:Nat)
 let i:=(0:Int)=(0:Int)∧True
 let k:=PLoop.of (a65 E.length b (9:Nat) (11:Nat) (12:Nat))
 let l:=AV.ps (b9 a b)
 let m:=(1099511627776:Nat)
 let n:=(1:Nat)
 E.length=E.length∧R.length=R.length∧M.length=M.length∧nE E∧nI R∧nR M∧((E.length≤m∧(M.length≤(8:Nat)→∀(r:List Int),List.Mem r M→r.length≤m))∧M.length≤(8:Nat))∧∀(us us_1:List Value) (cd:LupCd) (x:Option Addr × Nat),∃(x:PUnit),(∃(x:Nat),(x≤E.length∧True)∧((0:Int)=(↑x:Int)∧True)∧(a=a∧(0:Nat)=(d8 b E.length x).length)∧((0:Nat)=(d8 b E.length x).length∧(d8 b E.length x).length=(0:Nat)∧(d8 b E.length x).length=(0:Nat)∧True)∧True)∧∀(x_1:Nat),x_1≤E.length∧True→(decide ((↑x_1:Int) < a)=true→∃(x_2:Nat),(∃(x:Nat),(x≤E.length∧x_2 < E.length)∧((0:Int)=(↑x:Int)∧True)∧(a=a∧(d8 b E.length x_1).length=(d8 b E.length x_2 ++ e9 b x_2 x).length)∧((d8 b E.length x_1).length=(d8 b E.length x_2 ++ e9 b x_2 x).length∧(∀(j:Nat),j < (d8 b E.length x_2 ++ e9 b x_2 x).length→(b7 d (d8 b E.length x_1) j).fst=(b7 d (d8 b E.length x_2 ++ e9 b x_2 x) j).fst)∧(∀(j:Nat),j < (d8 b E.length x_2 ++ e9 b x_2 x).length→(b7 d (d8 b E.length x_1) j).snd=(b7 d (d8 b E.length x_2 ++ e9 b x_2 x) j).snd)∧True)∧True)∧∀(x_3:Nat),x_3≤E.length∧x_2 < E.length→(decide ((↑x_3:Int) < a)=true→∀(us_2:List Value),((0:Int)≤(↑x_1:Int)∧(↑x_1:Int) < a)∧x_1 < E.length∧((0:Int)≤(↑x_3:Int)∧(↑x_3:Int) < a)∧x_3 < E.length∧us_2=us_2∧((wrE (b7 e0 E x_1) && wrE (b7 e0 E x_3) && (b7 e0 E x_1).ob ==(b7 e0 E x_3).ob && decide (z8 (plM M (↑x_1:Int)) < z8 (plM M (↑x_3:Int))))=true→∀(us_3:List Value),us_1=us_1∧cd=cd∧us_1=us_1∧us_1=us_1∧cd=cd∧(d8 b E.length x_2 ++ e9 b x_2 x_3).length=(d8 b E.length x_2 ++ e9 b x_2 x_3).length∧n=n∧((d8 b E.length
 x_2 ++ e9 b x_2 x_3).length + n) * (16:Nat)≤(140737488355328:Nat)∧(d8 b E.length x_2 ++ e9 b x_2 x_3).length + n≤(9223372036854775807:Nat)∧us_1=us_1∧cd=cd∧us_3=us_3∧∃(x:Nat),(x≤E.length∧x_2 < E.length)∧(h.ann x_2).mu x < (h.ann x_2).mu x_3∧(True∧True∧True∧(↑x_1:Int)=(↑x_1:Int)∧True∧E.length=E.length∧a=a∧(↑x_1:Int)=(↑x_1:Int)∧true=true∧(↑x_1:Int)=(↑x_1:Int)∧True∧E.length=E.length∧a=a∧IntKind.i64.wrap ((↑x_3:Int) + (1:Int))=(↑x:Int)∧True)∧eqA E.length (i6 E)∧eqA R.length (e8 R)∧eqA M.length (i4 M)∧c∧i∧(∀(x:Int),plM M x=plM M x)∧True∧c∧(True∧True)∧(g∧us=us)∧i∧(a=a∧(d8 b E.length x_2 ++ e9 b x_2 x_3).length + n=(d8 b E.length x_2 ++ e9 b x_2 x).length)∧((d8 b E.length x_2 ++ e9 b x_2 x_3).length + n=(d8 b E.length x_2 ++ e9 b x_2 x).length∧(∀(j:Nat),j < (d8 b E.length x_2 ++ e9 b x_2 x).length→(bif j.blt (d8 b E.length x_2 ++ e9 b x_2 x_3).length then(b7 d (d8 b E.length x_2 ++ e9 b x_2 x_3) j).fst else g8 [(↑x_1:Int)] (j - (d8 b E.length x_2 ++ e9 b x_2 x_3).length))=(b7 d (d8 b E.length x_2 ++ e9 b x_2 x) j).fst)∧(∀(j:Nat),j < (d8 b E.length x_2 ++ e9 b x_2 x).length→(bif j.blt (d8 b E.length x_2 ++ e9 b x_2 x_3).length then(b7 d (d8 b E.length x_2 ++ e9 b x_2 x_3) j).snd else g8 [(↑x_3:Int)] (j - (d8 b E.length x_2 ++ e9 b x_2 x_3).length))=(b7 d (d8 b E.length x_2 ++ e9 b x_2 x) j).snd)∧True)∧(e∧us_1=us_1)∧(us_1=us_1∧cd=cd)∧True)∧((wrE (b7 e0 E x_1) && wrE (b7 e0 E x_3) && (b7 e0 E x_1).ob ==(b7 e0 E x_3).ob && decide (z8 (plM M (↑x_1:Int)) < z8 (plM M (↑x_3:Int))))
 =!true→∃(x:Nat),(x≤E.length∧x_2 < E.length)∧(h.ann x_2).mu x < (h.ann x_2).mu x_3∧(True∧True∧True∧(↑x_1:Int)=(↑x_1:Int)∧True∧E.length=E.length∧a=a∧(↑x_1:Int)=(↑x_1:Int)∧true=true∧(↑x_1:Int)=(↑x_1:Int)∧True∧E.length=E.length∧a=a∧IntKind.i64.wrap ((↑x_3:Int) + (1:Int))=(↑x:Int)∧True)∧eqA E.length (i6 E)∧eqA R.length (e8 R)∧eqA M.length (i4 M)∧c∧i∧(∀(x:Int),plM M x=plM M x)∧True∧c∧(True∧True)∧(g∧us=us)∧i∧(a=a∧(d8 b E.length x_2 ++ e9 b x_2 x_3).length=(d8 b E.length x_2 ++ e9 b x_2 x).length)∧((d8 b E.length x_2 ++ e9 b x_2 x_3).length=(d8 b E.length x_2 ++ e9 b x_2 x).length∧(∀(j:Nat),j < (d8 b E.length x_2 ++ e9 b x_2 x).length→(b7 d (d8 b E.length x_2 ++ e9 b x_2 x_3) j).fst=(b7 d (d8 b E.length x_2 ++ e9 b x_2 x) j).fst)∧(∀(j:Nat),j < (d8 b E.length x_2 ++ e9 b x_2 x).length→(b7 d (d8 b E.length x_2 ++ e9 b x_2 x_3) j).snd=(b7 d (d8 b E.length x_2 ++ e9 b x_2 x) j).snd)∧True)∧(e∧us_1=us_1)∧(us_1=us_1∧cd=cd)∧True))∧(decide ((↑x_3:Int) < a)=false→∃(x_4:Nat),(x_4≤E.length∧True)∧(k.ann x).mu x_4 < (k.ann x).mu x_1∧(True∧True∧True∧True∧E.length=E.length∧a=a∧IntKind.i64.wrap ((↑x_1:Int) + (1:Int))=(↑x_4:Int)∧True)∧eqA E.length (i6 E)∧eqA R.length (e8 R)∧eqA M.length (i4 M)∧c∧i∧(∀(x:Int),plM M x=plM M x)∧True∧c∧(True∧True)∧(g∧us=us)∧i∧(a=a∧(d8 b E.length x_2 ++ e9 b x_2 x_3).length=(d8 b E.length x_4).length)∧((d8 b E.length x_2 ++ e9 b x_2 x_3).length=(d8 b E.length x_4).length∧(∀(j:Nat),j < (d8 b E.length x_4).length→(b7 d (d8 b E.length x_2 ++ e9 b x_2 x_3) j).fst=(b7 d (d8 b
 E.length x_4) j).fst)∧(∀(j:Nat),j < (d8 b E.length x_4).length→(b7 d (d8 b E.length x_2 ++ e9 b x_2 x_3) j).snd=(b7 d (d8 b E.length x_4) j).snd)∧True)∧(e∧us_1=us_1)∧(us_1=us_1∧cd=cd)∧True))∧(decide ((↑x_1:Int) < a)=false→us_1=us_1∧us_1=us_1∧cd=cd∧(d8 b E.length x_1).length=(d8 b E.length x_1).length∧mkN (fun(j:Nat)=>((b7 d (d8 b E.length x_1) j).fst,(b7 d (d8 b E.length x_1) j).snd)) (d8 b E.length x_1).length=d8 b E.length E.length∧(d8 b E.length E.length).length≤m∧us=us∧(AV.ps f).len=l.len∧((∀(j:Nat),j < l.len→(b7 d f j).fst=(b7 d (b9 a b) j).fst)∧(∀(j:Nat),j < l.len→(b7 d f j).snd=(b7 d (b9 a b) j).snd)∧True)∧(bif g7 a (d8 b E.length E.length) then a else(0:Int))=a∧(AV.ps f).len=l.len∧True)):=by kernel_rfl
theorem v62 (E:List Ev) (R:List Int) (M:List (List Int)) (h:pgM E R M 0 0):q62D E R M:=by
 rw[d96]
 have h64:(E.length:Int)≤64:=h.1
 have hlen:=b6z (l8 E R M) (n:=E.length) (by omega)
 simp only[eq_self,true_and,and_true,z0o,imp_self,o6,o8,p7,i7,i9,PLoop.of,s8,AV.len,j4,z0u,l4,l5,l6,m8,m9,n5,a65,a44,PLoop.of,p7]
 refine⟨⟨⟨h.2.1.1,h.2.1.2⟩,h.2.2⟩,fun cd=>⟨(),⟨0,by simp,rfl,?_⟩,fun a ha=>⟨fun hlt=>⟨a,⟨0,?_⟩,fun b hb=>⟨fun hlb=>⟨⟨by have:=z0e hlt; have:=z0e hlb; omega,by have:=z0e hlt; have:=z0e hlb; omega⟩,(by have:=z0e hlt; have:=z0e hlb; omega),⟨by have:=z0e hlt; have:=z0e hlb; omega,by have:=z0e hlt; have:=z0e hlb; omega⟩,(by have:=z0e hlt; have:=z0e hlb; omega),fun hf=>?_,fun hf=>?_⟩,fun hlb=>?_⟩⟩,fun hlt=>?_⟩⟩⟩
 ·simp[a2p]
 ·have ha2:a < E.length:=by have:=z0e hlt; omega
  simp[a4b,ha2]
 ·have hb2:b < E.length:=by have:=z0e hlb; omega
  have h1:=hlen a b hb.2 hb.1
  replace hf:(l8 E R M) a b=true:=hf
  have e:e9 (l8 E R M) a (b + 1)=e9 (l8 E R M) a b ++ [((a:Int),(b:Int))]:=by rw[a0e,if_pos hf]
  have e2:d8 (l8 E R M) E.length a ++ e9 (l8 E R M) a (b + 1)=(d8 (l8 E R M) E.length a ++ e9 (l8 E R M) a b) ++ [((a:Int),(b:Int))]:=by rw[e,z1x]
  refine⟨by omega,by omega,b + 1,⟨by omega,hb.2⟩,by omega,wrS (n:=E.length) hb2 (by omega),?_⟩
  rw[e2]
  have e3:(d8 (l8 E R M) E.length a ++ e9 (l8 E R M) a b ++ [((a:Int),(b:Int))]).length=(d8 (l8 E R M) E.length a ++ e9 (l8 E R M) a b).length + 1:=by rw[z1d (bs:=[((a:Int),(b:Int))])]; rfl
  exact⟨e3.symm,e3.symm,ap1 (·.1) _ _,ap1 (·.2) _ _⟩
 ·have hb2:b < E.length:=by have:=z0e hlb; omega
  replace hf:(l8 E R M) a b=false:=hf
  have e:e9 (l8 E R M) a (b + 1)=e9 (l8 E R M) a b:=by rw[a0e,if_neg (by rw[hf]; simp),z1n]
  refine⟨b + 1,⟨by omega,hb.2⟩,by omega,wrS (n:=E.length) hb2 (by omega),?_⟩
  rw[e]
  simp
 ·have hb2:b=E.length:=by have:=z0i hlb; omega
  have e:d8 (l8 E R M) E.length (a + 1)=d8 (l8 E R M) E.length a ++ e9 (l8 E R M) a b:=by rw[a1s,hb2]
  refine⟨a + 1,by omega,by omega,wrS (n:=E.length) hb.2 (by omega),?_⟩
  rw[e]
  simp
 ·have ha2:a=E.length:=by have:=z0i hlt; omega
  subst ha2
  obtain⟨n1,n2⟩:=a8i (l8 E R M) (n:=E.length) (by omega)
  have h1:=a32 (l8 E R M) E.length E.length
  have h3:E.length * E.length≤64 * 64:=z3f (by omega) (by omega)
  rw[n1]
  simp only[z0f,n2]
  simp only[z0o,and_self,and_true,true_and]
  omega
def q49D (E:List Ev) (R:List Int) (M:List (List Int)):Prop:=s4 (({ calls:=[d20,kPl (nmG E R M),c5v (no 12 ++ [some (.ps (d8 (l7 E R M) E.length E.length))]),kE1 81 wrE,kE1 80 rdE],inl:=[d1u 11,allI E.length (l7 E R M) 11 12,(106,{ fn:=Tryz.f106 })] }:Kit)).tab Tryz.f49 [grV E R M] (grM E R M) ((b0u E.length (b9 E.length (l7 E R M))).post EL)
theorem d8x (E:List Ev) (R:List Int) (M:List (List Int)):q49D E R M=(
 let a:=(↑E.length:Int)
 let b:=l7 E R M
 let c:=E.length=E.length∧R.length=R.length∧M.length=M.length
 let d:=(0:Int)
 let e:=a=a∧(True∧True)∧True∧True∧True∧True∧True∧a=a∧(a=a∧True)∧(True∧True)∧True∧True∧True∧True∧True∧True∧True∧True∧True
 let f:=bif g7 a (d8 b E.length E.length) then b9 a (f7 (d8 b E.length E.length)) else []
 let g:=c∧True∧True∧True∧c∧True∧True∧E.length=E.length∧a=a∧c∧(True∧True)∧(True∧True)∧True
 let h:=a44 E.length b (15:Nat) (11:Nat) (12:Nat)
 let i:=PLoop.of (a65 E.length b (9:Nat) (11:Nat) (12:Nat))
 let k:=d=d∧True
 let l:=AV.ps (b9 a b)
 let m:=(1099511627776:Nat)
 let n:=(1:Nat)
 E.length=E.length∧R.length=R.length∧M.length=M.length∧nE E∧nI R∧nR M∧((E.length≤m∧(M.length≤(8:Nat)→∀(r:List Int),List.Mem r M→r.length≤m))∧M.length≤(8:Nat))∧∀(us us_1:List Value) (cd:LupCd) (x:Option Addr × Nat),∃(x:PUnit),(∃(x:Nat),(x≤E.length∧True)∧(d=(↑x:Int)∧True)∧(a=a∧(0:Nat)=(d8 b E.length x).length)∧((0:Nat)=(d8 b E.length x).length∧(d8 b E.length x).length=(0:Nat)∧(d8 b E.length x).length=(0:Nat)∧True)∧True)∧∀(x_1:Nat),x_1≤E.length∧True→(decide ((↑x_1:Int) < a)=true→∃(x_2:Nat),(∃(x:Nat),(x≤E.length∧x_2 < E.length)∧(d=(↑x:Int)∧True)∧(a=a∧(d8 b E.length x_1).length=(d8 b E.length x_2 ++ e9 b x_2 x).length)∧((d8 b E.length x_1).length=(d8 b E.length x_2 ++ e9 b x_2 x).length∧(∀(j:Nat),j < (d8 b E.length x_2 ++ e9 b x_2 x).length→(b7 (d,d) (d8 b E.length x_1) j).fst=(b7 (d,d) (d8 b E.length x_2 ++ e9 b x_2 x) j).fst)∧(∀(j:Nat),j < (d8 b E.length x_2 ++ e9 b x_2 x).length→(b7 (d,d) (d8 b E.length x_1) j).snd=(b7 (d,d) (d8 b E.length x_2 ++ e9 b x_2 x) j).snd)∧True)∧True)∧∀(x_3:Nat),x_3≤E.length∧x_2 < E.length→(decide ((↑x_3:Int) < a)=true→∀(us_2:List Value),(d≤(↑x_1:Int)∧(↑x_1:Int) < a)∧x_1 < E.length∧(d≤(↑x_3:Int)∧(↑x_3:Int) < a)∧x_3 < E.length∧(((↑x_1:Int) !=(↑x_3:Int) && rdE (b7 e0 E x_1) && wrE (b7 e0 E x_3) && (b7 e0 E x_1).ob ==(b7 e0 E x_3).ob)=true→d≤(↑x_1:Int)∧(↑x_1:Int) < (↑R.length:Int))∧(((↑x_1:Int) !=(↑x_3:Int) && rdE (b7 e0 E x_1) && wrE (b7 e0 E x_3) && (b7 e0 E x_1).ob ==(b7 e0 E x_3).ob)=true→x_1 < R.length)∧(decide (b7 d R x_1 < d)=false→((↑x_1:Int)
 !=(↑x_3:Int) && rdE (b7 e0 E x_1) && wrE (b7 e0 E x_3) && (b7 e0 E x_1).ob ==(b7 e0 E x_3).ob)=true→d≤(↑x_1:Int)∧(↑x_1:Int) < (↑R.length:Int))∧(decide (b7 d R x_1 < d)=false→((↑x_1:Int) !=(↑x_3:Int) && rdE (b7 e0 E x_1) && wrE (b7 e0 E x_3) && (b7 e0 E x_1).ob ==(b7 e0 E x_3).ob)=true→x_1 < R.length)∧us_2=us_2∧(((↑x_1:Int) !=(↑x_3:Int) && rdE (b7 e0 E x_1) && wrE (b7 e0 E x_3) && (b7 e0 E x_1).ob ==(b7 e0 E x_3).ob && (decide (b7 d R x_1 < d) || decide (z8 (plM M (b7 d R x_1)) < z8 (plM M (↑x_3:Int)))))=true→∀(us_3:List Value),us_1=us_1∧cd=cd∧us_1=us_1∧us_1=us_1∧cd=cd∧(d8 b E.length x_2 ++ e9 b x_2 x_3).length=(d8 b E.length x_2 ++ e9 b x_2 x_3).length∧n=n∧((d8 b E.length x_2 ++ e9 b x_2 x_3).length + n) * (16:Nat)≤(140737488355328:Nat)∧(d8 b E.length x_2 ++ e9 b x_2 x_3).length + n≤(9223372036854775807:Nat)∧us_1=us_1∧cd=cd∧us_3=us_3∧∃(x:Nat),(x≤E.length∧x_2 < E.length)∧(h.ann x_2).mu x < (h.ann x_2).mu x_3∧(True∧True∧True∧(↑x_1:Int)=(↑x_1:Int)∧True∧E.length=E.length∧a=a∧(↑x_1:Int)=(↑x_1:Int)∧true=true∧(↑x_1:Int)=(↑x_1:Int)∧True∧E.length=E.length∧a=a∧IntKind.i64.wrap ((↑x_3:Int) + (1:Int))=(↑x:Int)∧True)∧eqA E.length (i6 E)∧eqA R.length (e8 R)∧eqA M.length (i4 M)∧c∧k∧(∀(x:Int),plM M x=plM M x)∧True∧c∧(True∧True)∧(g∧us=us)∧k∧(a=a∧(d8 b E.length x_2 ++ e9 b x_2 x_3).length + n=(d8 b E.length x_2 ++ e9 b x_2 x).length)∧((d8 b E.length x_2 ++ e9 b x_2 x_3).length + n=(d8 b E.length x_2 ++ e9 b x_2 x).length∧(∀(j:Nat),j < (d8 b E.length x_2 ++ e9 b x_2 x).length→(bif j.blt (d8 b
 E.length x_2 ++ e9 b x_2 x_3).length then(b7 (d,d) (d8 b E.length x_2 ++ e9 b x_2 x_3) j).fst else g8 [(↑x_1:Int)] (j - (d8 b E.length x_2 ++ e9 b x_2 x_3).length))=(b7 (d,d) (d8 b E.length x_2 ++ e9 b x_2 x) j).fst)∧(∀(j:Nat),j < (d8 b E.length x_2 ++ e9 b x_2 x).length→(bif j.blt (d8 b E.length x_2 ++ e9 b x_2 x_3).length then(b7 (d,d) (d8 b E.length x_2 ++ e9 b x_2 x_3) j).snd else g8 [(↑x_3:Int)] (j - (d8 b E.length x_2 ++ e9 b x_2 x_3).length))=(b7 (d,d) (d8 b E.length x_2 ++ e9 b x_2 x) j).snd)∧True)∧(e∧us_1=us_1)∧(us_1=us_1∧cd=cd)∧True)∧(((↑x_1:Int) !=(↑x_3:Int) && rdE (b7 e0 E x_1) && wrE (b7 e0 E x_3) && (b7 e0 E x_1).ob ==(b7 e0 E x_3).ob && (decide (b7 d R x_1 < d) || decide (z8 (plM M (b7 d R x_1)) < z8 (plM M (↑x_3:Int))))) =!true→∃(x:Nat),(x≤E.length∧x_2 < E.length)∧(h.ann x_2).mu x < (h.ann x_2).mu x_3∧(True∧True∧True∧(↑x_1:Int)=(↑x_1:Int)∧True∧E.length=E.length∧a=a∧(↑x_1:Int)=(↑x_1:Int)∧true=true∧(↑x_1:Int)=(↑x_1:Int)∧True∧E.length=E.length∧a=a∧IntKind.i64.wrap ((↑x_3:Int) + (1:Int))=(↑x:Int)∧True)∧eqA E.length (i6 E)∧eqA R.length (e8 R)∧eqA M.length (i4 M)∧c∧k∧(∀(x:Int),plM M x=plM M x)∧True∧c∧(True∧True)∧(g∧us=us)∧k∧(a=a∧(d8 b E.length x_2 ++ e9 b x_2 x_3).length=(d8 b E.length x_2 ++ e9 b x_2 x).length)∧((d8 b E.length x_2 ++ e9 b x_2 x_3).length=(d8 b E.length x_2 ++ e9 b x_2 x).length∧(∀(j:Nat),j < (d8 b E.length x_2 ++ e9 b x_2 x).length→(b7 (d,d) (d8 b E.length x_2 ++ e9 b x_2 x_3) j).fst=(b7 (d,d) (d8 b E.length x_2 ++ e9 b x_2 x) j).fst)∧(∀(j:Nat),j
 < (d8 b E.length x_2 ++ e9 b x_2 x).length→(b7 (d,d) (d8 b E.length x_2 ++ e9 b x_2 x_3) j).snd=(b7 (d,d) (d8 b E.length x_2 ++ e9 b x_2 x) j).snd)∧True)∧(e∧us_1=us_1)∧(us_1=us_1∧cd=cd)∧True))∧(decide ((↑x_3:Int) < a)=false→∃(x_4:Nat),(x_4≤E.length∧True)∧(i.ann x).mu x_4 < (i.ann x).mu x_1∧(True∧True∧True∧True∧E.length=E.length∧a=a∧IntKind.i64.wrap ((↑x_1:Int) + (1:Int))=(↑x_4:Int)∧True)∧eqA E.length (i6 E)∧eqA R.length (e8 R)∧eqA M.length (i4 M)∧c∧k∧(∀(x:Int),plM M x=plM M x)∧True∧c∧(True∧True)∧(g∧us=us)∧k∧(a=a∧(d8 b E.length x_2 ++ e9 b x_2 x_3).length=(d8 b E.length x_4).length)∧((d8 b E.length x_2 ++ e9 b x_2 x_3).length=(d8 b E.length x_4).length∧(∀(j:Nat),j < (d8 b E.length x_4).length→(b7 (d,d) (d8 b E.length x_2 ++ e9 b x_2 x_3) j).fst=(b7 (d,d) (d8 b E.length x_4) j).fst)∧(∀(j:Nat),j < (d8 b E.length x_4).length→(b7 (d,d) (d8 b E.length x_2 ++ e9 b x_2 x_3) j).snd=(b7 (d,d) (d8 b E.length x_4) j).snd)∧True)∧(e∧us_1=us_1)∧(us_1=us_1∧cd=cd)∧True))∧(decide ((↑x_1:Int) < a)=false→us_1=us_1∧us_1=us_1∧cd=cd∧(d8 b E.length x_1).length=(d8 b E.length x_1).length∧mkN (fun(j:Nat)=>((b7 (d,d) (d8 b E.length x_1) j).fst,(b7 (d,d) (d8 b E.length x_1) j).snd)) (d8 b E.length x_1).length=d8 b E.length E.length∧(d8 b E.length E.length).length≤m∧us=us∧(AV.ps f).len=l.len∧((∀(j:Nat),j < l.len→(b7 (d,d) f j).fst=(b7 (d,d) (b9 a b) j).fst)∧(∀(j:Nat),j < l.len→(b7 (d,d) f j).snd=(b7 (d,d) (b9 a b) j).snd)∧True)∧(bif g7 a (d8 b E.length E.length) then a else d)=a∧(AV.ps f).len=l.len∧True)):=by kernel_rfl
theorem v49 (E:List Ev) (R:List Int) (M:List (List Int)) (h:pgF E R M 0 0):q49D E R M:=by
 rw[d8x]
 have h64:(E.length:Int)≤64:=h.1
 have hR:R.length=E.length:=h.2.1
 have hlen:=b6z (l7 E R M) (n:=E.length) (by omega)
 simp only[eq_self,true_and,and_true,z0o,imp_self,o6,o8,p7,i7,i9,PLoop.of,s8,AV.len,j4,z0u,l4,l5,l6,m8,m9,n5,a65,a44,PLoop.of,p7]
 refine⟨⟨⟨h.2.2.1.1,h.2.2.1.2⟩,h.2.2.2⟩,fun cd=>⟨(),⟨0,by simp,rfl,?_⟩,fun a ha=>⟨fun hlt=>⟨a,⟨0,?_⟩,fun b hb=>⟨fun hlb=>⟨⟨by have:=z0e hlt; have:=z0e hlb; omega,by have:=z0e hlt; have:=z0e hlb; omega⟩,(by have:=z0e hlt; have:=z0e hlb; omega),⟨by have:=z0e hlt; have:=z0e hlb; omega,by have:=z0e hlt; have:=z0e hlb; omega⟩,(by have:=z0e hlt; have:=z0e hlb; omega),(fun _=>⟨by have:=z0e hlt; have:=z0e hlb; omega,by have:=z0e hlt; have:=z0e hlb; omega⟩),(fun _=>by have:=z0e hlt; have:=z0e hlb; omega),(fun _ _=>⟨by have:=z0e hlt; have:=z0e hlb; omega,by have:=z0e hlt; have:=z0e hlb; omega⟩),(fun _ _=>by have:=z0e hlt; have:=z0e hlb; omega),fun hf=>?_,fun hf=>?_⟩,fun hlb=>?_⟩⟩,fun hlt=>?_⟩⟩⟩
 ·simp[a2p]
 ·have ha2:a < E.length:=by have:=z0e hlt; omega
  simp[a4b,ha2]
 ·have hb2:b < E.length:=by have:=z0e hlb; omega
  have h1:=hlen a b hb.2 hb.1
  replace hf:(l7 E R M) a b=true:=hf
  have e:e9 (l7 E R M) a (b + 1)=e9 (l7 E R M) a b ++ [((a:Int),(b:Int))]:=by rw[a0e,if_pos hf]
  have e2:d8 (l7 E R M) E.length a ++ e9 (l7 E R M) a (b + 1)=(d8 (l7 E R M) E.length a ++ e9 (l7 E R M) a b) ++ [((a:Int),(b:Int))]:=by rw[e,z1x]
  refine⟨by omega,by omega,b + 1,⟨by omega,hb.2⟩,by omega,wrS (n:=E.length) hb2 (by omega),?_⟩
  rw[e2]
  have e3:(d8 (l7 E R M) E.length a ++ e9 (l7 E R M) a b ++ [((a:Int),(b:Int))]).length=(d8 (l7 E R M) E.length a ++ e9 (l7 E R M) a b).length + 1:=by rw[z1d (bs:=[((a:Int),(b:Int))])]; rfl
  exact⟨e3.symm,e3.symm,ap1 (·.1) _ _,ap1 (·.2) _ _⟩
 ·have hb2:b < E.length:=by have:=z0e hlb; omega
  replace hf:(l7 E R M) a b=false:=hf
  have e:e9 (l7 E R M) a (b + 1)=e9 (l7 E R M) a b:=by rw[a0e,if_neg (by rw[hf]; simp),z1n]
  refine⟨b + 1,⟨by omega,hb.2⟩,by omega,wrS (n:=E.length) hb2 (by omega),?_⟩
  rw[e]
  simp
 ·have hb2:b=E.length:=by have:=z0i hlb; omega
  have e:d8 (l7 E R M) E.length (a + 1)=d8 (l7 E R M) E.length a ++ e9 (l7 E R M) a b:=by rw[a1s,hb2]
  refine⟨a + 1,by omega,by omega,wrS (n:=E.length) hb.2 (by omega),?_⟩
  rw[e]
  simp
 ·have ha2:a=E.length:=by have:=z0i hlt; omega
  subst ha2
  obtain⟨n1,n2⟩:=a8i (l7 E R M) (n:=E.length) (by omega)
  have h1:=a32 (l7 E R M) E.length E.length
  have h3:E.length * E.length≤64 * 64:=z3f (by omega) (by omega)
  rw[n1]
  simp only[z0f,n2]
  simp only[z0o,and_self,and_true,true_and]
  omega
theorem n62 (nm:List (Option AV)):CallOk Tryz.prog [] 62 (q6 EL none nm [PG] (a7h pgM l8)):=z4 Tryz.func62 fo62 fun av pre rv h=>by
 unfold a7h at h; split at h <;> cases h
 exact⟨⟨rfl,fun t a e=>by cases e <;> exact z0h _ _⟩,fun hp=>⟨_,v62 _ _ _ (hp _ (.head _)),rfl,(o5 d2b (o5 (n104 _) (o5 (c6g _) (o5 (n81 _) v4)))),(a3y d1y (a3y c4e (a3y e1j v5)))⟩⟩
theorem n49 (nm:List (Option AV)):CallOk Tryz.prog [] 49 (q6 EL none nm [PG] (a7h pgF l7)):=z4 Tryz.func49 fo49 fun av pre rv h=>by
 unfold a7h at h; split at h <;> cases h
 exact⟨⟨rfl,fun t a e=>by cases e <;> exact z0h _ _⟩,fun hp=>⟨_,v49 _ _ _ (hp _ (.head _)),rfl,(o5 d2b (o5 (n104 _) (o5 (c6g _) (o5 (n81 _) (o5 (n80 _) v4))))),(a3y d1y (a3y c4e (a3y e1i v5)))⟩⟩
def j7:GF:=fun E _ _ i k=>decide (i < k) && a41 (evA E i) (evA E k)
def c60 (n:Nat) (f:Pf) (t c e:Nat):PLoop:=⟨Nat,fun a=>{ X:=Nat,inv:=fun b=>a < n∧a + 1≤b∧b≤n,slots:=fun b=>[(t,.i .i64 (b:Int))],mem:=fun b=>[(c,.cells [.i .i64 (n:Int),.sl e (d8 f n a ++ e9 f a b).length]),c0v e (d8 f n a ++ e9 f a b)],mu:=fun b=>n - b,kill:=[e] }⟩
noncomputable def lisI (n:Nat) (f:Pf) (c e:Nat):Nat × Inl:=(112,{ fn:=Tryz.f112,loops:=[(0,.of (a65 n f 10 c e)),(2,c60 n f 6 c e)] })
def PL:PK:=.cl 112 58 [.es,.is,.rs]
def d7g:SpG:=fun
 | [.lf (.i n),.cl 112 58 [.es E,.is R,.rs M]]=>some ([n=E.length∧(E.length:Int)≤64],b0u E.length (b9 E.length (j7 E R M)))
 | _=>none
def kCol (nm:List (Option AV)):Nat × (List MBlk→List SV→Option AR):=(56,q6 EL none nm [.lf .i,PL] d7g)
def d5d:Nat × (List MBlk→List SV→Option AR):=kE2 58 a41
def liM (E:List Ev) (R:List Int) (M:List (List Int)):List MBlk:=[.old [.sl 2 E.length,.sl 3 R.length,.sl 4 M.length],.old [.fn 58 []],.arr E.length (i6 E),.arr R.length (e8 R),.arr M.length (i4 M)]
theorem d7z {E:List Ev} {R:List Int} {M:List (List Int)} {i k:Int} (h:k≤i):j7 E R M i k=false:=by
 have:decide (i < k)=false:=by simpa using h
 simp only[j7,this,Bool.false_and]
theorem c70 {f:Pf} {a:Nat}:∀ {b:Nat},(∀ j:Nat,j < b→f a j=false)→e9 f a b=[]:=by
 intro b
 induction b with
 | zero=>intro _; exact a4b f a
 | succ b ih=>intro h; rw[a0e,ih fun j hj=>h j (by omega),h b (by omega)]; simp
theorem e0g:s5 Tryz.prog 112:=⟨Tryz.f112,Tryz.func112,by kernel_rfl,by kernel_rfl⟩
theorem d5a {l:List (Nat × PLoop)} {t:List (Nat × (List Slot→List MBlk→List Gh))} {s:List Nat}:a2x (112,⟨Tryz.f112,l,t,s⟩):=⟨Tryz.func112,e0g⟩
def q56D (E:List Ev) (R:List Int) (M:List (List Int)) (n:Int):Prop:=s4 (({ calls:=[d5d,c5v (no 7 ++ [some (.ps (d8 (j7 E R M) E.length E.length))])],inl:=[lisI E.length (j7 E R M) 6 7],takes:=[(2,fun _ _=>[.fresh 6 1 67 2])] }:Kit)).tab Tryz.f56 [.i .i64 n,.fn 112 [.ptr 0 0,.ptr 1 0]] (liM E R M) ((b0u E.length (b9 E.length (j7 E R M))).post EL)
theorem d92 (E:List Ev) (R:List Int) (M:List (List Int)) (n:Int):q56D E R M n=(
 let a:=j7 E R M
 let b:=(↑E.length:Int)
 let c:=((0:Int),(0:Int))
 let d:=n=n∧(True∧True)∧True∧True∧True∧True∧True∧n=n∧(n=n∧True)∧(True∧True)∧True∧True∧True∧True∧True∧True∧True∧True∧True
 let e:=bif g7 b (d8 a E.length E.length) then b9 b (f7 (d8 a E.length E.length)) else []
 let f:=c60 E.length a (6:Nat) (6:Nat) (7:Nat)
 let g:=E.length=E.length∧R.length=R.length∧M.length=M.length
 let h:=PLoop.of (a65 E.length a (10:Nat) (6:Nat) (7:Nat))
 let i:=(0:Int)
 let l:=(1:Nat)
 let m:=AV.ps (b9 b a)
 let o:=(1:Int)
 ∀(us:List Value) (cd:LupCd) (x:Option Addr × Nat),∃(x:PUnit),(∃(x:Nat),(x≤E.length∧True)∧(i=(↑x:Int)∧True)∧(n=b∧(0:Nat)=(d8 a E.length x).length)∧((0:Nat)=(d8 a E.length x).length∧(d8 a E.length x).length=(0:Nat)∧(d8 a E.length x).length=(0:Nat)∧True)∧True)∧∀(x_1:Nat),x_1≤E.length∧True→(decide ((↑x_1:Int) < b)=true→(i≤(↑x_1:Int)∧(↑x_1:Int) < b)∧x_1 < E.length∧∃(x_2:Nat),(∃(x:Nat),(x_2 < E.length∧x_2 + l≤x∧x≤E.length)∧(IntKind.i64.wrap ((↑x_1:Int) + o)=(↑x:Int)∧True)∧(b=b∧(d8 a E.length x_1).length=(d8 a E.length x_2 ++ e9 a x_2 x).length)∧((d8 a E.length x_1).length=(d8 a E.length x_2 ++ e9 a x_2 x).length∧(∀(j:Nat),j < (d8 a E.length x_2 ++ e9 a x_2 x).length→(b7 c (d8 a E.length x_1) j).fst=(b7 c (d8 a E.length x_2 ++ e9 a x_2 x) j).fst)∧(∀(j:Nat),j < (d8 a E.length x_2 ++ e9 a x_2 x).length→(b7 c (d8 a E.length x_1) j).snd=(b7 c (d8 a E.length x_2 ++ e9 a x_2 x) j).snd)∧True)∧True)∧∀(x_3:Nat),x_2 < E.length∧x_2 + l≤x_3∧x_3≤E.length→(decide ((↑x_3:Int) < b)=true→(i≤(↑x_3:Int)∧(↑x_3:Int) < b)∧x_3 < E.length∧(a41 (b7 e0 E x_1) (b7 e0 E x_3)=true→∀(us_1:List Value),us=us∧cd=cd∧us=us∧us=us∧cd=cd∧(d8 a E.length x_2 ++ e9 a x_2 x_3).length=(d8 a E.length x_2 ++ e9 a x_2 x_3).length∧l=l∧((d8 a E.length x_2 ++ e9 a x_2 x_3).length + l) * (16:Nat)≤(140737488355328:Nat)∧(d8 a E.length x_2 ++ e9 a x_2 x_3).length + l≤(9223372036854775807:Nat)∧us=us∧cd=cd∧us_1=us_1∧∃(x:Nat),(x_2 < E.length∧x_2 + l≤x∧x≤E.length)∧(f.ann x_2).mu x < (f.ann x_2).mu
 x_3∧(True∧True∧True∧(↑x_1:Int)=(↑x_1:Int)∧True∧IntKind.i64.wrap ((↑x_3:Int) + o)=(↑x:Int)∧True∧E.length=E.length∧b=b∧(↑x_1:Int)=(↑x_1:Int)∧true=true∧(↑x_1:Int)=(↑x_1:Int)∧x_1=x_1∧((b7 e0 E x_1).ag=(b7 e0 E x_1).ag∧(b7 e0 E x_1).ix=(b7 e0 E x_1).ix∧(b7 e0 E x_1).k=(b7 e0 E x_1).k∧(b7 e0 E x_1).ob=(b7 e0 E x_1).ob∧(b7 e0 E x_1).mu=(b7 e0 E x_1).mu∧(b7 e0 E x_1).en=(b7 e0 E x_1).en∧(b7 e0 E x_1).od=(b7 e0 E x_1).od∧(b7 e0 E x_1).rd=(b7 e0 E x_1).rd∧(b7 e0 E x_1).wr=(b7 e0 E x_1).wr)∧(↑x_1:Int)=(↑x_1:Int)∧IntKind.i64.wrap ((↑x_1:Int) + o)=IntKind.i64.wrap ((↑x_1:Int) + o)∧True)∧g∧True∧eqA E.length (i6 E)∧eqA R.length (e8 R)∧eqA M.length (i4 M)∧(i=i∧True)∧(b=b∧(d8 a E.length x_2 ++ e9 a x_2 x_3).length + l=(d8 a E.length x_2 ++ e9 a x_2 x).length)∧((d8 a E.length x_2 ++ e9 a x_2 x_3).length + l=(d8 a E.length x_2 ++ e9 a x_2 x).length∧(∀(j:Nat),j < (d8 a E.length x_2 ++ e9 a x_2 x).length→(bif j.blt (d8 a E.length x_2 ++ e9 a x_2 x_3).length then(b7 c (d8 a E.length x_2 ++ e9 a x_2 x_3) j).fst else g8 [(↑x_1:Int)] (j - (d8 a E.length x_2 ++ e9 a x_2 x_3).length))=(b7 c (d8 a E.length x_2 ++ e9 a x_2 x) j).fst)∧(∀(j:Nat),j < (d8 a E.length x_2 ++ e9 a x_2 x).length→(bif j.blt (d8 a E.length x_2 ++ e9 a x_2 x_3).length then(b7 c (d8 a E.length x_2 ++ e9 a x_2 x_3) j).snd else g8 [(↑x_3:Int)] (j - (d8 a E.length x_2 ++ e9 a x_2 x_3).length))=(b7 c (d8 a E.length x_2 ++ e9 a x_2 x) j).snd)∧True)∧(d∧us=us)∧(us=us∧cd=cd)∧((b7 e0 E x_1).ag=(b7 e0 E x_1).ag∧(b7 e0 E x_1).ix=(b7 e0 E
 x_1).ix∧(b7 e0 E x_1).k=(b7 e0 E x_1).k∧(b7 e0 E x_1).ob=(b7 e0 E x_1).ob∧(b7 e0 E x_1).mu=(b7 e0 E x_1).mu∧(b7 e0 E x_1).en=(b7 e0 E x_1).en∧(b7 e0 E x_1).od=(b7 e0 E x_1).od∧(b7 e0 E x_1).rd=(b7 e0 E x_1).rd∧(b7 e0 E x_1).wr=(b7 e0 E x_1).wr)∧True)∧(a41 (b7 e0 E x_1) (b7 e0 E x_3) =!true→∃(x:Nat),(x_2 < E.length∧x_2 + l≤x∧x≤E.length)∧(f.ann x_2).mu x < (f.ann x_2).mu x_3∧(True∧True∧True∧(↑x_1:Int)=(↑x_1:Int)∧True∧IntKind.i64.wrap ((↑x_3:Int) + o)=(↑x:Int)∧True∧E.length=E.length∧b=b∧(↑x_1:Int)=(↑x_1:Int)∧true=true∧(↑x_1:Int)=(↑x_1:Int)∧x_1=x_1∧((b7 e0 E x_1).ag=(b7 e0 E x_1).ag∧(b7 e0 E x_1).ix=(b7 e0 E x_1).ix∧(b7 e0 E x_1).k=(b7 e0 E x_1).k∧(b7 e0 E x_1).ob=(b7 e0 E x_1).ob∧(b7 e0 E x_1).mu=(b7 e0 E x_1).mu∧(b7 e0 E x_1).en=(b7 e0 E x_1).en∧(b7 e0 E x_1).od=(b7 e0 E x_1).od∧(b7 e0 E x_1).rd=(b7 e0 E x_1).rd∧(b7 e0 E x_1).wr=(b7 e0 E x_1).wr)∧(↑x_1:Int)=(↑x_1:Int)∧IntKind.i64.wrap ((↑x_1:Int) + o)=IntKind.i64.wrap ((↑x_1:Int) + o)∧True)∧g∧True∧eqA E.length (i6 E)∧eqA R.length (e8 R)∧eqA M.length (i4 M)∧(i=i∧True)∧(b=b∧(d8 a E.length x_2 ++ e9 a x_2 x_3).length=(d8 a E.length x_2 ++ e9 a x_2 x).length)∧((d8 a E.length x_2 ++ e9 a x_2 x_3).length=(d8 a E.length x_2 ++ e9 a x_2 x).length∧(∀(j:Nat),j < (d8 a E.length x_2 ++ e9 a x_2 x).length→(b7 c (d8 a E.length x_2 ++ e9 a x_2 x_3) j).fst=(b7 c (d8 a E.length x_2 ++ e9 a x_2 x) j).fst)∧(∀(j:Nat),j < (d8 a E.length x_2 ++ e9 a x_2 x).length→(b7 c (d8 a E.length x_2 ++ e9 a x_2 x_3) j).snd=(b7 c (d8 a E.length x_2 ++ e9 a x_2
 x) j).snd)∧True)∧(d∧us=us)∧(us=us∧cd=cd)∧((b7 e0 E x_1).ag=(b7 e0 E x_1).ag∧(b7 e0 E x_1).ix=(b7 e0 E x_1).ix∧(b7 e0 E x_1).k=(b7 e0 E x_1).k∧(b7 e0 E x_1).ob=(b7 e0 E x_1).ob∧(b7 e0 E x_1).mu=(b7 e0 E x_1).mu∧(b7 e0 E x_1).en=(b7 e0 E x_1).en∧(b7 e0 E x_1).od=(b7 e0 E x_1).od∧(b7 e0 E x_1).rd=(b7 e0 E x_1).rd∧(b7 e0 E x_1).wr=(b7 e0 E x_1).wr)∧True))∧(decide ((↑x_3:Int) < b)=false→∃(x_4:Nat),(x_4≤E.length∧True)∧(h.ann x).mu x_4 < (h.ann x).mu x_1∧(True∧True∧True∧True∧E.length=E.length∧b=b∧IntKind.i64.wrap ((↑x_1:Int) + o)=(↑x_4:Int)∧True)∧g∧True∧eqA E.length (i6 E)∧eqA R.length (e8 R)∧eqA M.length (i4 M)∧(i=i∧True)∧(b=b∧(d8 a E.length x_2 ++ e9 a x_2 x_3).length=(d8 a E.length x_4).length)∧((d8 a E.length x_2 ++ e9 a x_2 x_3).length=(d8 a E.length x_4).length∧(∀(j:Nat),j < (d8 a E.length x_4).length→(b7 c (d8 a E.length x_2 ++ e9 a x_2 x_3) j).fst=(b7 c (d8 a E.length x_4) j).fst)∧(∀(j:Nat),j < (d8 a E.length x_4).length→(b7 c (d8 a E.length x_2 ++ e9 a x_2 x_3) j).snd=(b7 c (d8 a E.length x_4) j).snd)∧True)∧(d∧us=us)∧(us=us∧cd=cd)∧True))∧(decide ((↑x_1:Int) < b)=false→us=us∧us=us∧cd=cd∧(d8 a E.length x_1).length=(d8 a E.length x_1).length∧mkN (fun(j:Nat)=>((b7 c (d8 a E.length x_1) j).fst,(b7 c (d8 a E.length x_1) j).snd)) (d8 a E.length x_1).length=d8 a E.length E.length∧(d8 a E.length E.length).length≤(1099511627776:Nat)∧(AV.ps e).len=m.len∧((∀(j:Nat),j < m.len→(b7 c e j).fst=(b7 c (b9 b a) j).fst)∧(∀(j:Nat),j < m.len→(b7 c e j).snd=(b7 c (b9 b a) j).snd)∧True)∧(bif g7 b
 (d8 a E.length E.length) then b else i)=b∧(AV.ps e).len=m.len∧True)):=by kernel_rfl
theorem v56 (E:List Ev) (R:List Int) (M:List (List Int)) (n:Int) (h:n=E.length∧(E.length:Int)≤64):q56D E R M n:=by
 rw[d92]
 have h64:(E.length:Int)≤64:=h.2
 have hn:=h.1
 subst hn
 have hlen:=b6z (j7 E R M) (n:=E.length) (by omega)
 simp only[eq_self,true_and,and_true,z0o,imp_self,o6,o8,p7,i7,i9,PLoop.of,s8,AV.len,j4,z0u,l4,l5,l6,m8,m9,n5,a65,c60,PLoop.of,p7]
 refine fun cd=>⟨(),⟨0,by simp,rfl,?_⟩,fun a ha=>⟨fun hlt=>⟨⟨by omega,z0e hlt⟩,?_,a,⟨a + 1,?_⟩,fun b hb=>⟨fun hlb=>⟨⟨by omega,z0e hlb⟩,?_,fun hf=>?_,fun hf=>?_⟩,fun hlb=>?_⟩⟩,fun hlt=>?_⟩⟩
 ·simp[a2p]
 ·have:=z0e hlt; omega
 ·have ha2:a < E.length:=by have:=z0e hlt; omega
  have e:e9 (j7 E R M) a (a + 1)=[]:=c70 fun j hj=>d7z (by omega)
  rw[e,z1n]
  exact⟨⟨ha2,by omega,by omega⟩,wrS (n:=E.length) ha2 (by omega),rfl,rfl,fun _ _=>rfl,fun _ _=>rfl⟩
 ·have:=z0e hlb; omega
 ·have hb2:b < E.length:=by have:=z0e hlb; omega
  have h1:=hlen a b hb.1 hb.2.2
  replace hf:(j7 E R M) a b=true:=by
   have:decide ((a:Int) < (b:Int))=true:=by simp; omega
   simp only[j7,this,z0y]; exact hf
  have e:e9 (j7 E R M) a (b + 1)=e9 (j7 E R M) a b ++ [((a:Int),(b:Int))]:=by rw[a0e,if_pos hf]
  have e2:d8 (j7 E R M) E.length a ++ e9 (j7 E R M) a (b + 1)=(d8 (j7 E R M) E.length a ++ e9 (j7 E R M) a b) ++ [((a:Int),(b:Int))]:=by rw[e,z1x]
  refine⟨by omega,by omega,b + 1,⟨hb.1,by omega,by omega⟩,by omega,wrS (n:=E.length) hb2 (by omega),?_⟩
  rw[e2]
  have e3:(d8 (j7 E R M) E.length a ++ e9 (j7 E R M) a b ++ [((a:Int),(b:Int))]).length=(d8 (j7 E R M) E.length a ++ e9 (j7 E R M) a b).length + 1:=by rw[z1d (bs:=[((a:Int),(b:Int))])]; rfl
  exact⟨e3.symm,e3.symm,ap1 (·.1) _ _,ap1 (·.2) _ _⟩
 ·have hb2:b < E.length:=by have:=z0e hlb; omega
  replace hf:(j7 E R M) a b=false:=by
   have:decide ((a:Int) < (b:Int))=true:=by simp; omega
   simp only[j7,this,z0y]; exact hf
  have e:e9 (j7 E R M) a (b + 1)=e9 (j7 E R M) a b:=by rw[a0e,if_neg (by rw[hf]; simp),z1n]
  refine⟨b + 1,⟨hb.1,by omega,by omega⟩,by omega,wrS (n:=E.length) hb2 (by omega),?_⟩
  rw[e]
  simp
 ·have hb2:b=E.length:=by have:=z0i hlb; omega
  have e:d8 (j7 E R M) E.length (a + 1)=d8 (j7 E R M) E.length a ++ e9 (j7 E R M) a b:=by rw[a1s,hb2]
  refine⟨a + 1,by omega,by omega,wrS (n:=E.length) hb.1 (by omega),?_⟩
  rw[e]
  simp
 ·have ha2:a=E.length:=by have:=z0i hlt; omega
  subst ha2
  obtain⟨n1,n2⟩:=a8i (j7 E R M) (n:=E.length) (by omega)
  have h1:=a32 (j7 E R M) E.length E.length
  have h3:E.length * E.length≤64 * 64:=z3f (by omega) (by omega)
  rw[n1]
  simp only[z0f,n2]
  simp only[z0o,and_self,and_true,true_and]
  omega
theorem n56 (nm:List (Option AV)):CallOk Tryz.prog [] 56 (q6 EL none nm [.lf .i,PL] d7g):=z4 Tryz.func56 fo56 fun av pre rv h=>by
 unfold d7g at h; split at h <;> cases h
 exact⟨⟨rfl,fun t a e=>by cases e <;> exact z0h _ _⟩,fun hp=>⟨_,v56 _ _ _ _ (hp _ (.head _)),rfl,(o5 (n58 _) (o5 (c6g _) v4)),(a3y d5a v5)⟩⟩
def a3g (R:List Int) (x:Int):Nat→List Int
 | 0=>[]
 | s + 1=>a3g R x s ++ [atF R x s]
def a7q (R:List Int) (x:Int) (s:Nat):Bool:=decide (atF R x s < 0) || (a3g R x s).contains (atF R x s)
def chS (R:List Int) (x:Int):Nat→Nat→Nat
 | 0,s=>s
 | f + 1,s=>bif a7q R x s then s else chS R x f (s + 1)
def swR (E:List Ev) (R:List Int) (x:Int) (k:Int):Nat→List Pq
 | 0=>[]
 | s + 1=>bif (evA E (atF R x s)).od == 2 then swR E R x k s ++ [(atF R x s,k)] else swR E R x k s
def swK (E:List Ev) (R:List Int) (k:Int):List Pq:=bif !rdE (evA E k) || (evA E k).od != 2 then [] else swR E R (inA R k) k (chS R (inA R k) (E.length + 1) 0)
def swP (E:List Ev) (R:List Int):Nat→List Pq
 | 0=>[]
 | k + 1=>swP E R k ++ swK E R k
def a03:GF:=fun E R _=>f7 (swP E R E.length)
def chIn (E:List Ev) (R:List Int) (k s:Nat):Prop:=k < E.length∧rdE (evA E k)=true∧(evA E k).od=2∧(∀ j:Nat,j < s→0≤atF R (inA R k) j∧atF R (inA R k) j < E.length)∧(a3g R (inA R k) s).Nodup∧chS R (inA R k) (E.length + 1) 0=chS R (inA R k) (E.length + 1 - s) s
def lSw (E:List Ev) (R:List Int) (t c e:Nat):LAnn:=s8 E.length t (fun _=>True) (fun k=>[(c,.cells [.i .i64 (E.length:Int),.sl e (swP E R k).length]),c0v e (swP E R k)]) [e]
def lCh (E:List Ev) (R:List Int) (t c e r:Nat):PLoop:=⟨Nat,fun k=>{ X:=Nat,inv:=chIn E R k,slots:=fun s=>[(t,.i .i64 (atF R (inA R k) s))],mem:=fun s=>[(c,.cells [.i .i64 (E.length:Int),.sl e (swP E R k ++ swR E R (inA R k) k s).length]),c0v e (swP E R k ++ swR E R (inA R k) k s),(r,.mapi .i64 none (a31 (a3g R (inA R k) s)))],mu:=fun s=>E.length + 1 - s,kill:=[e] }⟩
noncomputable def chI (E:List Ev) (R:List Int) (c e r:Nat):Nat × Inl:=(146,{ fn:=Tryz.f146,loops:=[(0,lCh E R 5 c e r)] })
def kChn:Nat × (List MBlk→List SV→Option AR):=(108,b7y)
def pgS:GP:=fun E R _ _ _=>(E.length:Int)≤64∧b3p E R
end Go.Proofs.YtaeeaniofljmnaaGreatDoor
