/-
  A part of the proof (N31a).
-/
import Derived.Test.YtaeeaniofljmnaaGreatDoorN27a
namespace Go.Proofs.YtaeeaniofljmnaaGreatDoor
set_option linter.unusedSimpArgs false
set_option linter.unusedVariables false
open Go Go.Proofs.YtaeeaniofljmnaaGreatDoor.Sx
set_option maxRecDepth 100000
def pgM:GP:=fun E _ M _ _=>(E.length:Int)≤64∧SzG E M∧M.length≤8
def pgF:GP:=fun E R M _ _=>(E.length:Int)≤64∧R.length=E.length∧SzG E M∧M.length≤8
def a6g (pc:GP) (fn:GF):SpG:=fun
 | [.ag [.es E,.is R,.rs M]]=>some ([pc E R M 0 0],b1l E.length (b9 E.length (fn E R M)))
 | _=>none
theorem fo62:o8 Tryz.prog 62:=⟨Tryz.f62,Tryz.func62,by kernel_rfl,by kernel_rfl⟩
theorem fo49:o8 Tryz.prog 49:=⟨Tryz.f49,Tryz.func49,by kernel_rfl,by kernel_rfl⟩
theorem d6u:o8 Tryz.prog 118:=⟨Tryz.f118,Tryz.func118,by kernel_rfl,by kernel_rfl⟩
theorem d7o {l:List (Nat × PLoop)} {t:List (Nat × (List Slot→List MBlk→List Gh))} {s:List Nat}:a1q (118,⟨Tryz.f118,l,t,s⟩):=⟨Tryz.func118,d6u⟩
theorem d6l:o8 Tryz.prog 106:=⟨Tryz.f106,Tryz.func106,by kernel_rfl,by kernel_rfl⟩
theorem d7m {l:List (Nat × PLoop)} {t:List (Nat × (List Slot→List MBlk→List Gh))} {s:List Nat}:a1q (106,⟨Tryz.f106,l,t,s⟩):=⟨Tryz.func106,d6l⟩
def q62D (E:List Ev) (R:List Int) (M:List (List Int)):Prop:=n9 (({ calls:=[c9k,kPl (nmG E R M),c3o (no 12 ++ [some (.ps (d5 (i7 E R M) E.length E.length))]),kE1 81 wrE],inl:=[c9f 11,allI E.length (i7 E R M) 11 12,(118,{ fn:=Tryz.f118 })] }:Kit)).tab Tryz.f62 [grV E R M] (grM E R M) ((b1l E.length (b9 E.length (i7 E R M))).post EL)
theorem d5o (E:List Ev) (R:List Int) (M:List (List Int)):q62D E R M=(
 let a:=(↑E.length:Int)
 let b:=i7 E R M
 let c:=E.length=E.length∧R.length=R.length∧M.length=M.length
 let d:=((0:Int),(0:Int))
 let e:=a=a∧(True∧True)∧True∧True∧True∧True∧True∧a=a∧(a=a∧True)∧(True∧True)∧True∧True∧True∧True∧True∧True∧True∧True∧True
 let f:=bif d9 a (d5 b E.length E.length) then b9 a (e9 (d5 b E.length E.length)) else []
 let g:=c∧True∧True∧True∧c∧True∧True∧E.length=E.length∧a=a∧c∧(True∧True)∧(True∧True)∧True
 let h:=a51 E.length b (15:Nat) (11:Nat) (12:Nat)
 let i:=(0:Int)=(0:Int)∧True
 let k:=PLoop.of (a6y E.length b (9:Nat) (11:Nat) (12:Nat))
 let l:=AV.ps (b9 a b)
 let m:=(1099511627776:Nat)
 let n:=(1:Nat)
 E.length=E.length∧R.length=R.length∧M.length=M.length∧nE E∧nI R∧nR M∧((E.length≤m∧(M.length≤(8:Nat)→∀(r:List Int),List.Mem r M→r.length≤m))∧M.length≤(8:Nat))∧∀(us us_1:List Value) (cd:LupCd) (x:Option Addr × Nat),∃(x:PUnit),(∃(x:Nat),(x≤E.length∧True)∧((0:Int)=(↑x:Int)∧True)∧(a=a∧(0:Nat)=(d5 b E.length x).length)∧((0:Nat)=(d5 b E.length x).length∧(d5 b E.length x).length=(0:Nat)∧(d5 b E.length x).length=(0:Nat)∧True)∧True)∧∀(x_1:Nat),x_1≤E.length∧True→(decide ((↑x_1:Int) < a)=true→∃(x_2:Nat),(∃(x:Nat),(x≤E.length∧x_2 < E.length)∧((0:Int)=(↑x:Int)∧True)∧(a=a∧(d5 b E.length x_1).length=(d5 b E.length x_2 ++ f8 b x_2 x).length)∧((d5 b E.length x_1).length=(d5 b E.length x_2 ++ f8 b x_2 x).length∧(∀(j:Nat),j < (d5 b E.length x_2 ++ f8 b x_2 x).length→(b8 d (d5 b E.length x_1) j).fst=(b8 d (d5 b E.length x_2 ++ f8 b x_2 x) j).fst)∧(∀(j:Nat),j < (d5 b E.length x_2 ++ f8 b x_2 x).length→(b8 d (d5 b E.length x_1) j).snd=(b8 d (d5 b E.length x_2 ++ f8 b x_2 x) j).snd)∧True)∧True)∧∀(x_3:Nat),x_3≤E.length∧x_2 < E.length→(decide ((↑x_3:Int) < a)=true→∀(us_2:List Value),((0:Int)≤(↑x_1:Int)∧(↑x_1:Int) < a)∧x_1 < E.length∧((0:Int)≤(↑x_3:Int)∧(↑x_3:Int) < a)∧x_3 < E.length∧us_2=us_2∧((wrE (b8 e0 E x_1) && wrE (b8 e0 E x_3) && (b8 e0 E x_1).ob ==(b8 e0 E x_3).ob && decide (a10 (plM M (↑x_1:Int)) < a10 (plM M (↑x_3:Int))))=true→∀(us_3:List Value),us_1=us_1∧cd=cd∧us_1=us_1∧us_1=us_1∧cd=cd∧(d5 b E.length x_2 ++ f8 b x_2 x_3).length=(d5 b E.length x_2 ++ f8 b x_2 x_3).length∧n=n∧((d5 b E.length
 x_2 ++ f8 b x_2 x_3).length + n) * (16:Nat)≤(140737488355328:Nat)∧(d5 b E.length x_2 ++ f8 b x_2 x_3).length + n≤(9223372036854775807:Nat)∧us_1=us_1∧cd=cd∧us_3=us_3∧∃(x:Nat),(x≤E.length∧x_2 < E.length)∧(h.ann x_2).mu x < (h.ann x_2).mu x_3∧(True∧True∧True∧(↑x_1:Int)=(↑x_1:Int)∧True∧E.length=E.length∧a=a∧(↑x_1:Int)=(↑x_1:Int)∧true=true∧(↑x_1:Int)=(↑x_1:Int)∧True∧E.length=E.length∧a=a∧IntKind.i64.wrap ((↑x_3:Int) + (1:Int))=(↑x:Int)∧True)∧eqA E.length (g9 E)∧eqA R.length (j6 R)∧eqA M.length (l4 M)∧c∧i∧(∀(x:Int),plM M x=plM M x)∧True∧c∧(True∧True)∧(g∧us=us)∧i∧(a=a∧(d5 b E.length x_2 ++ f8 b x_2 x_3).length + n=(d5 b E.length x_2 ++ f8 b x_2 x).length)∧((d5 b E.length x_2 ++ f8 b x_2 x_3).length + n=(d5 b E.length x_2 ++ f8 b x_2 x).length∧(∀(j:Nat),j < (d5 b E.length x_2 ++ f8 b x_2 x).length→(bif j.blt (d5 b E.length x_2 ++ f8 b x_2 x_3).length then(b8 d (d5 b E.length x_2 ++ f8 b x_2 x_3) j).fst else e8 [(↑x_1:Int)] (j - (d5 b E.length x_2 ++ f8 b x_2 x_3).length))=(b8 d (d5 b E.length x_2 ++ f8 b x_2 x) j).fst)∧(∀(j:Nat),j < (d5 b E.length x_2 ++ f8 b x_2 x).length→(bif j.blt (d5 b E.length x_2 ++ f8 b x_2 x_3).length then(b8 d (d5 b E.length x_2 ++ f8 b x_2 x_3) j).snd else e8 [(↑x_3:Int)] (j - (d5 b E.length x_2 ++ f8 b x_2 x_3).length))=(b8 d (d5 b E.length x_2 ++ f8 b x_2 x) j).snd)∧True)∧(e∧us_1=us_1)∧(us_1=us_1∧cd=cd)∧True)∧((wrE (b8 e0 E x_1) && wrE (b8 e0 E x_3) && (b8 e0 E x_1).ob ==(b8 e0 E x_3).ob && decide (a10 (plM M (↑x_1:Int)) < a10 (plM M (↑x_3:Int))))
 =!true→∃(x:Nat),(x≤E.length∧x_2 < E.length)∧(h.ann x_2).mu x < (h.ann x_2).mu x_3∧(True∧True∧True∧(↑x_1:Int)=(↑x_1:Int)∧True∧E.length=E.length∧a=a∧(↑x_1:Int)=(↑x_1:Int)∧true=true∧(↑x_1:Int)=(↑x_1:Int)∧True∧E.length=E.length∧a=a∧IntKind.i64.wrap ((↑x_3:Int) + (1:Int))=(↑x:Int)∧True)∧eqA E.length (g9 E)∧eqA R.length (j6 R)∧eqA M.length (l4 M)∧c∧i∧(∀(x:Int),plM M x=plM M x)∧True∧c∧(True∧True)∧(g∧us=us)∧i∧(a=a∧(d5 b E.length x_2 ++ f8 b x_2 x_3).length=(d5 b E.length x_2 ++ f8 b x_2 x).length)∧((d5 b E.length x_2 ++ f8 b x_2 x_3).length=(d5 b E.length x_2 ++ f8 b x_2 x).length∧(∀(j:Nat),j < (d5 b E.length x_2 ++ f8 b x_2 x).length→(b8 d (d5 b E.length x_2 ++ f8 b x_2 x_3) j).fst=(b8 d (d5 b E.length x_2 ++ f8 b x_2 x) j).fst)∧(∀(j:Nat),j < (d5 b E.length x_2 ++ f8 b x_2 x).length→(b8 d (d5 b E.length x_2 ++ f8 b x_2 x_3) j).snd=(b8 d (d5 b E.length x_2 ++ f8 b x_2 x) j).snd)∧True)∧(e∧us_1=us_1)∧(us_1=us_1∧cd=cd)∧True))∧(decide ((↑x_3:Int) < a)=false→∃(x_4:Nat),(x_4≤E.length∧True)∧(k.ann x).mu x_4 < (k.ann x).mu x_1∧(True∧True∧True∧True∧E.length=E.length∧a=a∧IntKind.i64.wrap ((↑x_1:Int) + (1:Int))=(↑x_4:Int)∧True)∧eqA E.length (g9 E)∧eqA R.length (j6 R)∧eqA M.length (l4 M)∧c∧i∧(∀(x:Int),plM M x=plM M x)∧True∧c∧(True∧True)∧(g∧us=us)∧i∧(a=a∧(d5 b E.length x_2 ++ f8 b x_2 x_3).length=(d5 b E.length x_4).length)∧((d5 b E.length x_2 ++ f8 b x_2 x_3).length=(d5 b E.length x_4).length∧(∀(j:Nat),j < (d5 b E.length x_4).length→(b8 d (d5 b E.length x_2 ++ f8 b x_2 x_3) j).fst=(b8 d (d5 b
 E.length x_4) j).fst)∧(∀(j:Nat),j < (d5 b E.length x_4).length→(b8 d (d5 b E.length x_2 ++ f8 b x_2 x_3) j).snd=(b8 d (d5 b E.length x_4) j).snd)∧True)∧(e∧us_1=us_1)∧(us_1=us_1∧cd=cd)∧True))∧(decide ((↑x_1:Int) < a)=false→us_1=us_1∧us_1=us_1∧cd=cd∧(d5 b E.length x_1).length=(d5 b E.length x_1).length∧mkN (fun(j:Nat)=>((b8 d (d5 b E.length x_1) j).fst,(b8 d (d5 b E.length x_1) j).snd)) (d5 b E.length x_1).length=d5 b E.length E.length∧(d5 b E.length E.length).length≤m∧us=us∧(AV.ps f).len=l.len∧((∀(j:Nat),j < l.len→(b8 d f j).fst=(b8 d (b9 a b) j).fst)∧(∀(j:Nat),j < l.len→(b8 d f j).snd=(b8 d (b9 a b) j).snd)∧True)∧(bif d9 a (d5 b E.length E.length) then a else(0:Int))=a∧(AV.ps f).len=l.len∧True)):=by kernel_rfl
theorem v62 (E:List Ev) (R:List Int) (M:List (List Int)) (h:pgM E R M 0 0):q62D E R M:=by
 rw[d5o]
 have h64:(E.length:Int)≤64:=h.1
 have hlen:=b8g (i7 E R M) (n:=E.length) (by omega)
 simp only[eq_self,true_and,and_true,z0p,imp_self,m5,n5,o0,g8,i9,PLoop.of,s5,AV.len,j5,z0v,j8,l5,l6,m6,m7,m8,a6y,a51,PLoop.of,o0]
 refine⟨⟨⟨h.2.1.1,h.2.1.2⟩,h.2.2⟩,fun cd=>⟨(),⟨0,by simp,rfl,?_⟩,fun a ha=>⟨fun hlt=>⟨a,⟨0,?_⟩,fun b hb=>⟨fun hlb=>⟨⟨by have:=z0e hlt; have:=z0e hlb; omega,by have:=z0e hlt; have:=z0e hlb; omega⟩,(by have:=z0e hlt; have:=z0e hlb; omega),⟨by have:=z0e hlt; have:=z0e hlb; omega,by have:=z0e hlt; have:=z0e hlb; omega⟩,(by have:=z0e hlt; have:=z0e hlb; omega),fun hf=>?_,fun hf=>?_⟩,fun hlb=>?_⟩⟩,fun hlt=>?_⟩⟩⟩
 ·simp[a2n]
 ·have ha2:a < E.length:=by have:=z0e hlt; omega
  simp[a48,ha2]
 ·have hb2:b < E.length:=by have:=z0e hlb; omega
  have h1:=hlen a b hb.2 hb.1
  replace hf:(i7 E R M) a b=true:=hf
  have e:f8 (i7 E R M) a (b + 1)=f8 (i7 E R M) a b ++ [((a:Int),(b:Int))]:=by rw[a0b,if_pos hf]
  have e2:d5 (i7 E R M) E.length a ++ f8 (i7 E R M) a (b + 1)=(d5 (i7 E R M) E.length a ++ f8 (i7 E R M) a b) ++ [((a:Int),(b:Int))]:=by rw[e,z1y]
  refine⟨by omega,by omega,b + 1,⟨by omega,hb.2⟩,by omega,wrS (n:=E.length) hb2 (by omega),?_⟩
  rw[e2]
  have e3:(d5 (i7 E R M) E.length a ++ f8 (i7 E R M) a b ++ [((a:Int),(b:Int))]).length=(d5 (i7 E R M) E.length a ++ f8 (i7 E R M) a b).length + 1:=by rw[z1b (bs:=[((a:Int),(b:Int))])]; rfl
  exact⟨e3.symm,e3.symm,ap1 (·.1) _ _,ap1 (·.2) _ _⟩
 ·have hb2:b < E.length:=by have:=z0e hlb; omega
  replace hf:(i7 E R M) a b=false:=hf
  have e:f8 (i7 E R M) a (b + 1)=f8 (i7 E R M) a b:=by rw[a0b,if_neg (by rw[hf]; simp),z1f]
  refine⟨b + 1,⟨by omega,hb.2⟩,by omega,wrS (n:=E.length) hb2 (by omega),?_⟩
  rw[e]
  simp
 ·have hb2:b=E.length:=by have:=z0l hlb; omega
  have e:d5 (i7 E R M) E.length (a + 1)=d5 (i7 E R M) E.length a ++ f8 (i7 E R M) a b:=by rw[a1k,hb2]
  refine⟨a + 1,by omega,by omega,wrS (n:=E.length) hb.2 (by omega),?_⟩
  rw[e]
  simp
 ·have ha2:a=E.length:=by have:=z0l hlt; omega
  subst ha2
  obtain⟨n1,n2⟩:=a7k (i7 E R M) (n:=E.length) (by omega)
  have h1:=a2z (i7 E R M) E.length E.length
  have h3:E.length * E.length≤64 * 64:=z2x (by omega) (by omega)
  rw[n1]
  simp only[z0f,n2]
  simp only[z0p,and_self,and_true,true_and]
  omega
def q49D (E:List Ev) (R:List Int) (M:List (List Int)):Prop:=n9 (({ calls:=[c9k,kPl (nmG E R M),c3o (no 12 ++ [some (.ps (d5 (i6 E R M) E.length E.length))]),kE1 81 wrE,kE1 80 rdE],inl:=[c9f 11,allI E.length (i6 E R M) 11 12,(106,{ fn:=Tryz.f106 })] }:Kit)).tab Tryz.f49 [grV E R M] (grM E R M) ((b1l E.length (b9 E.length (i6 E R M))).post EL)
theorem d5g (E:List Ev) (R:List Int) (M:List (List Int)):q49D E R M=(
 let a:=(↑E.length:Int)
 let b:=i6 E R M
 let c:=E.length=E.length∧R.length=R.length∧M.length=M.length
 let d:=(0:Int)
 let e:=a=a∧(True∧True)∧True∧True∧True∧True∧True∧a=a∧(a=a∧True)∧(True∧True)∧True∧True∧True∧True∧True∧True∧True∧True∧True
 let f:=bif d9 a (d5 b E.length E.length) then b9 a (e9 (d5 b E.length E.length)) else []
 let g:=c∧True∧True∧True∧c∧True∧True∧E.length=E.length∧a=a∧c∧(True∧True)∧(True∧True)∧True
 let h:=a51 E.length b (15:Nat) (11:Nat) (12:Nat)
 let i:=PLoop.of (a6y E.length b (9:Nat) (11:Nat) (12:Nat))
 let k:=d=d∧True
 let l:=AV.ps (b9 a b)
 let m:=(1099511627776:Nat)
 let n:=(1:Nat)
 E.length=E.length∧R.length=R.length∧M.length=M.length∧nE E∧nI R∧nR M∧((E.length≤m∧(M.length≤(8:Nat)→∀(r:List Int),List.Mem r M→r.length≤m))∧M.length≤(8:Nat))∧∀(us us_1:List Value) (cd:LupCd) (x:Option Addr × Nat),∃(x:PUnit),(∃(x:Nat),(x≤E.length∧True)∧(d=(↑x:Int)∧True)∧(a=a∧(0:Nat)=(d5 b E.length x).length)∧((0:Nat)=(d5 b E.length x).length∧(d5 b E.length x).length=(0:Nat)∧(d5 b E.length x).length=(0:Nat)∧True)∧True)∧∀(x_1:Nat),x_1≤E.length∧True→(decide ((↑x_1:Int) < a)=true→∃(x_2:Nat),(∃(x:Nat),(x≤E.length∧x_2 < E.length)∧(d=(↑x:Int)∧True)∧(a=a∧(d5 b E.length x_1).length=(d5 b E.length x_2 ++ f8 b x_2 x).length)∧((d5 b E.length x_1).length=(d5 b E.length x_2 ++ f8 b x_2 x).length∧(∀(j:Nat),j < (d5 b E.length x_2 ++ f8 b x_2 x).length→(b8 (d,d) (d5 b E.length x_1) j).fst=(b8 (d,d) (d5 b E.length x_2 ++ f8 b x_2 x) j).fst)∧(∀(j:Nat),j < (d5 b E.length x_2 ++ f8 b x_2 x).length→(b8 (d,d) (d5 b E.length x_1) j).snd=(b8 (d,d) (d5 b E.length x_2 ++ f8 b x_2 x) j).snd)∧True)∧True)∧∀(x_3:Nat),x_3≤E.length∧x_2 < E.length→(decide ((↑x_3:Int) < a)=true→∀(us_2:List Value),(d≤(↑x_1:Int)∧(↑x_1:Int) < a)∧x_1 < E.length∧(d≤(↑x_3:Int)∧(↑x_3:Int) < a)∧x_3 < E.length∧(((↑x_1:Int) !=(↑x_3:Int) && rdE (b8 e0 E x_1) && wrE (b8 e0 E x_3) && (b8 e0 E x_1).ob ==(b8 e0 E x_3).ob)=true→d≤(↑x_1:Int)∧(↑x_1:Int) < (↑R.length:Int))∧(((↑x_1:Int) !=(↑x_3:Int) && rdE (b8 e0 E x_1) && wrE (b8 e0 E x_3) && (b8 e0 E x_1).ob ==(b8 e0 E x_3).ob)=true→x_1 < R.length)∧(decide (b8 d R x_1 < d)=false→((↑x_1:Int)
 !=(↑x_3:Int) && rdE (b8 e0 E x_1) && wrE (b8 e0 E x_3) && (b8 e0 E x_1).ob ==(b8 e0 E x_3).ob)=true→d≤(↑x_1:Int)∧(↑x_1:Int) < (↑R.length:Int))∧(decide (b8 d R x_1 < d)=false→((↑x_1:Int) !=(↑x_3:Int) && rdE (b8 e0 E x_1) && wrE (b8 e0 E x_3) && (b8 e0 E x_1).ob ==(b8 e0 E x_3).ob)=true→x_1 < R.length)∧us_2=us_2∧(((↑x_1:Int) !=(↑x_3:Int) && rdE (b8 e0 E x_1) && wrE (b8 e0 E x_3) && (b8 e0 E x_1).ob ==(b8 e0 E x_3).ob && (decide (b8 d R x_1 < d) || decide (a10 (plM M (b8 d R x_1)) < a10 (plM M (↑x_3:Int)))))=true→∀(us_3:List Value),us_1=us_1∧cd=cd∧us_1=us_1∧us_1=us_1∧cd=cd∧(d5 b E.length x_2 ++ f8 b x_2 x_3).length=(d5 b E.length x_2 ++ f8 b x_2 x_3).length∧n=n∧((d5 b E.length x_2 ++ f8 b x_2 x_3).length + n) * (16:Nat)≤(140737488355328:Nat)∧(d5 b E.length x_2 ++ f8 b x_2 x_3).length + n≤(9223372036854775807:Nat)∧us_1=us_1∧cd=cd∧us_3=us_3∧∃(x:Nat),(x≤E.length∧x_2 < E.length)∧(h.ann x_2).mu x < (h.ann x_2).mu x_3∧(True∧True∧True∧(↑x_1:Int)=(↑x_1:Int)∧True∧E.length=E.length∧a=a∧(↑x_1:Int)=(↑x_1:Int)∧true=true∧(↑x_1:Int)=(↑x_1:Int)∧True∧E.length=E.length∧a=a∧IntKind.i64.wrap ((↑x_3:Int) + (1:Int))=(↑x:Int)∧True)∧eqA E.length (g9 E)∧eqA R.length (j6 R)∧eqA M.length (l4 M)∧c∧k∧(∀(x:Int),plM M x=plM M x)∧True∧c∧(True∧True)∧(g∧us=us)∧k∧(a=a∧(d5 b E.length x_2 ++ f8 b x_2 x_3).length + n=(d5 b E.length x_2 ++ f8 b x_2 x).length)∧((d5 b E.length x_2 ++ f8 b x_2 x_3).length + n=(d5 b E.length x_2 ++ f8 b x_2 x).length∧(∀(j:Nat),j < (d5 b E.length x_2 ++ f8 b x_2 x).length→(bif j.blt (d5
 b E.length x_2 ++ f8 b x_2 x_3).length then(b8 (d,d) (d5 b E.length x_2 ++ f8 b x_2 x_3) j).fst else e8 [(↑x_1:Int)] (j - (d5 b E.length x_2 ++ f8 b x_2 x_3).length))=(b8 (d,d) (d5 b E.length x_2 ++ f8 b x_2 x) j).fst)∧(∀(j:Nat),j < (d5 b E.length x_2 ++ f8 b x_2 x).length→(bif j.blt (d5 b E.length x_2 ++ f8 b x_2 x_3).length then(b8 (d,d) (d5 b E.length x_2 ++ f8 b x_2 x_3) j).snd else e8 [(↑x_3:Int)] (j - (d5 b E.length x_2 ++ f8 b x_2 x_3).length))=(b8 (d,d) (d5 b E.length x_2 ++ f8 b x_2 x) j).snd)∧True)∧(e∧us_1=us_1)∧(us_1=us_1∧cd=cd)∧True)∧(((↑x_1:Int) !=(↑x_3:Int) && rdE (b8 e0 E x_1) && wrE (b8 e0 E x_3) && (b8 e0 E x_1).ob ==(b8 e0 E x_3).ob && (decide (b8 d R x_1 < d) || decide (a10 (plM M (b8 d R x_1)) < a10 (plM M (↑x_3:Int))))) =!true→∃(x:Nat),(x≤E.length∧x_2 < E.length)∧(h.ann x_2).mu x < (h.ann x_2).mu x_3∧(True∧True∧True∧(↑x_1:Int)=(↑x_1:Int)∧True∧E.length=E.length∧a=a∧(↑x_1:Int)=(↑x_1:Int)∧true=true∧(↑x_1:Int)=(↑x_1:Int)∧True∧E.length=E.length∧a=a∧IntKind.i64.wrap ((↑x_3:Int) + (1:Int))=(↑x:Int)∧True)∧eqA E.length (g9 E)∧eqA R.length (j6 R)∧eqA M.length (l4 M)∧c∧k∧(∀(x:Int),plM M x=plM M x)∧True∧c∧(True∧True)∧(g∧us=us)∧k∧(a=a∧(d5 b E.length x_2 ++ f8 b x_2 x_3).length=(d5 b E.length x_2 ++ f8 b x_2 x).length)∧((d5 b E.length x_2 ++ f8 b x_2 x_3).length=(d5 b E.length x_2 ++ f8 b x_2 x).length∧(∀(j:Nat),j < (d5 b E.length x_2 ++ f8 b x_2 x).length→(b8 (d,d) (d5 b E.length x_2 ++ f8 b x_2 x_3) j).fst=(b8 (d,d) (d5 b E.length x_2 ++ f8 b x_2 x)
 j).fst)∧(∀(j:Nat),j < (d5 b E.length x_2 ++ f8 b x_2 x).length→(b8 (d,d) (d5 b E.length x_2 ++ f8 b x_2 x_3) j).snd=(b8 (d,d) (d5 b E.length x_2 ++ f8 b x_2 x) j).snd)∧True)∧(e∧us_1=us_1)∧(us_1=us_1∧cd=cd)∧True))∧(decide ((↑x_3:Int) < a)=false→∃(x_4:Nat),(x_4≤E.length∧True)∧(i.ann x).mu x_4 < (i.ann x).mu x_1∧(True∧True∧True∧True∧E.length=E.length∧a=a∧IntKind.i64.wrap ((↑x_1:Int) + (1:Int))=(↑x_4:Int)∧True)∧eqA E.length (g9 E)∧eqA R.length (j6 R)∧eqA M.length (l4 M)∧c∧k∧(∀(x:Int),plM M x=plM M x)∧True∧c∧(True∧True)∧(g∧us=us)∧k∧(a=a∧(d5 b E.length x_2 ++ f8 b x_2 x_3).length=(d5 b E.length x_4).length)∧((d5 b E.length x_2 ++ f8 b x_2 x_3).length=(d5 b E.length x_4).length∧(∀(j:Nat),j < (d5 b E.length x_4).length→(b8 (d,d) (d5 b E.length x_2 ++ f8 b x_2 x_3) j).fst=(b8 (d,d) (d5 b E.length x_4) j).fst)∧(∀(j:Nat),j < (d5 b E.length x_4).length→(b8 (d,d) (d5 b E.length x_2 ++ f8 b x_2 x_3) j).snd=(b8 (d,d) (d5 b E.length x_4) j).snd)∧True)∧(e∧us_1=us_1)∧(us_1=us_1∧cd=cd)∧True))∧(decide ((↑x_1:Int) < a)=false→us_1=us_1∧us_1=us_1∧cd=cd∧(d5 b E.length x_1).length=(d5 b E.length x_1).length∧mkN (fun(j:Nat)=>((b8 (d,d) (d5 b E.length x_1) j).fst,(b8 (d,d) (d5 b E.length x_1) j).snd)) (d5 b E.length x_1).length=d5 b E.length E.length∧(d5 b E.length E.length).length≤m∧us=us∧(AV.ps f).len=l.len∧((∀(j:Nat),j < l.len→(b8 (d,d) f j).fst=(b8 (d,d) (b9 a b) j).fst)∧(∀(j:Nat),j < l.len→(b8 (d,d) f j).snd=(b8 (d,d) (b9 a b) j).snd)∧True)∧(bif d9 a (d5 b E.length E.length) then a else
 d)=a∧(AV.ps f).len=l.len∧True)):=by kernel_rfl
theorem v49 (E:List Ev) (R:List Int) (M:List (List Int)) (h:pgF E R M 0 0):q49D E R M:=by
 rw[d5g]
 have h64:(E.length:Int)≤64:=h.1
 have hR:R.length=E.length:=h.2.1
 have hlen:=b8g (i6 E R M) (n:=E.length) (by omega)
 simp only[eq_self,true_and,and_true,z0p,imp_self,m5,n5,o0,g8,i9,PLoop.of,s5,AV.len,j5,z0v,j8,l5,l6,m6,m7,m8,a6y,a51,PLoop.of,o0]
 refine⟨⟨⟨h.2.2.1.1,h.2.2.1.2⟩,h.2.2.2⟩,fun cd=>⟨(),⟨0,by simp,rfl,?_⟩,fun a ha=>⟨fun hlt=>⟨a,⟨0,?_⟩,fun b hb=>⟨fun hlb=>⟨⟨by have:=z0e hlt; have:=z0e hlb; omega,by have:=z0e hlt; have:=z0e hlb; omega⟩,(by have:=z0e hlt; have:=z0e hlb; omega),⟨by have:=z0e hlt; have:=z0e hlb; omega,by have:=z0e hlt; have:=z0e hlb; omega⟩,(by have:=z0e hlt; have:=z0e hlb; omega),(fun _=>⟨by have:=z0e hlt; have:=z0e hlb; omega,by have:=z0e hlt; have:=z0e hlb; omega⟩),(fun _=>by have:=z0e hlt; have:=z0e hlb; omega),(fun _ _=>⟨by have:=z0e hlt; have:=z0e hlb; omega,by have:=z0e hlt; have:=z0e hlb; omega⟩),(fun _ _=>by have:=z0e hlt; have:=z0e hlb; omega),fun hf=>?_,fun hf=>?_⟩,fun hlb=>?_⟩⟩,fun hlt=>?_⟩⟩⟩
 ·simp[a2n]
 ·have ha2:a < E.length:=by have:=z0e hlt; omega
  simp[a48,ha2]
 ·have hb2:b < E.length:=by have:=z0e hlb; omega
  have h1:=hlen a b hb.2 hb.1
  replace hf:(i6 E R M) a b=true:=hf
  have e:f8 (i6 E R M) a (b + 1)=f8 (i6 E R M) a b ++ [((a:Int),(b:Int))]:=by rw[a0b,if_pos hf]
  have e2:d5 (i6 E R M) E.length a ++ f8 (i6 E R M) a (b + 1)=(d5 (i6 E R M) E.length a ++ f8 (i6 E R M) a b) ++ [((a:Int),(b:Int))]:=by rw[e,z1y]
  refine⟨by omega,by omega,b + 1,⟨by omega,hb.2⟩,by omega,wrS (n:=E.length) hb2 (by omega),?_⟩
  rw[e2]
  have e3:(d5 (i6 E R M) E.length a ++ f8 (i6 E R M) a b ++ [((a:Int),(b:Int))]).length=(d5 (i6 E R M) E.length a ++ f8 (i6 E R M) a b).length + 1:=by rw[z1b (bs:=[((a:Int),(b:Int))])]; rfl
  exact⟨e3.symm,e3.symm,ap1 (·.1) _ _,ap1 (·.2) _ _⟩
 ·have hb2:b < E.length:=by have:=z0e hlb; omega
  replace hf:(i6 E R M) a b=false:=hf
  have e:f8 (i6 E R M) a (b + 1)=f8 (i6 E R M) a b:=by rw[a0b,if_neg (by rw[hf]; simp),z1f]
  refine⟨b + 1,⟨by omega,hb.2⟩,by omega,wrS (n:=E.length) hb2 (by omega),?_⟩
  rw[e]
  simp
 ·have hb2:b=E.length:=by have:=z0l hlb; omega
  have e:d5 (i6 E R M) E.length (a + 1)=d5 (i6 E R M) E.length a ++ f8 (i6 E R M) a b:=by rw[a1k,hb2]
  refine⟨a + 1,by omega,by omega,wrS (n:=E.length) hb.2 (by omega),?_⟩
  rw[e]
  simp
 ·have ha2:a=E.length:=by have:=z0l hlt; omega
  subst ha2
  obtain⟨n1,n2⟩:=a7k (i6 E R M) (n:=E.length) (by omega)
  have h1:=a2z (i6 E R M) E.length E.length
  have h3:E.length * E.length≤64 * 64:=z2x (by omega) (by omega)
  rw[n1]
  simp only[z0f,n2]
  simp only[z0p,and_self,and_true,true_and]
  omega
theorem n62 (nm:List (Option AV)):CallOk Tryz.prog [] 62 (n8 EL none nm [PG] (a6g pgM i7)):=y5 Tryz.func62 fo62 fun av pre rv h=>by
 unfold a6g at h; split at h <;> cases h
 exact⟨⟨rfl,fun t a e=>by cases e <;> exact z0k _ _⟩,fun hp=>⟨_,v62 _ _ _ (hp _ (.head _)),rfl,(m9 c9s (m9 (n104 _) (m9 (c48 _) (m9 (n81 _) v4)))),(a3q c9i (a3q c28 (a3q d7o v5)))⟩⟩
theorem n49 (nm:List (Option AV)):CallOk Tryz.prog [] 49 (n8 EL none nm [PG] (a6g pgF i6)):=y5 Tryz.func49 fo49 fun av pre rv h=>by
 unfold a6g at h; split at h <;> cases h
 exact⟨⟨rfl,fun t a e=>by cases e <;> exact z0k _ _⟩,fun hp=>⟨_,v49 _ _ _ (hp _ (.head _)),rfl,(m9 c9s (m9 (n104 _) (m9 (c48 _) (m9 (n81 _) (m9 (n80 _) v4))))),(a3q c9i (a3q c28 (a3q d7m v5)))⟩⟩
def f9:GF:=fun E _ _ i k=>decide (i < k) && b16 (evA E i) (evA E k)
def c3r (n:Nat) (f:Pf) (t c e:Nat):PLoop:=⟨Nat,fun a=>{ X:=Nat,inv:=fun b=>a < n∧a + 1≤b∧b≤n,slots:=fun b=>[(t,.i .i64 (b:Int))],mem:=fun b=>[(c,.cells [.i .i64 (n:Int),.sl e (d5 f n a ++ f8 f a b).length]),b8x e (d5 f n a ++ f8 f a b)],mu:=fun b=>n - b,kill:=[e] }⟩
noncomputable def lisI (n:Nat) (f:Pf) (c e:Nat):Nat × Inl:=(112,{ fn:=Tryz.f112,loops:=[(0,.of (a6y n f 10 c e)),(2,c3r n f 6 c e)] })
def PL:PK:=.cl 112 58 [.es,.is,.rs]
def d47:SpG:=fun
 | [.lf (.i n),.cl 112 58 [.es E,.is R,.rs M]]=>some ([n=E.length∧(E.length:Int)≤64],b1l E.length (b9 E.length (f9 E R M)))
 | _=>none
def kCol (nm:List (Option AV)):Nat × (List MBlk→List SV→Option AR):=(56,n8 EL none nm [.lf .i,PL] d47)
def d7t:Nat × (List MBlk→List SV→Option AR):=kE2 58 b16
def liM (E:List Ev) (R:List Int) (M:List (List Int)):List MBlk:=[.old [.sl 2 E.length,.sl 3 R.length,.sl 4 M.length],.old [.fn 58 []],.arr E.length (g9 E),.arr R.length (j6 R),.arr M.length (l4 M)]
theorem d4j {E:List Ev} {R:List Int} {M:List (List Int)} {i k:Int} (h:k≤i):f9 E R M i k=false:=by
 have:decide (i < k)=false:=by simpa using h
 simp only[f9,this,Bool.false_and]
theorem c4s {f:Pf} {a:Nat}:∀ {b:Nat},(∀ j:Nat,j < b→f a j=false)→f8 f a b=[]:=by
 intro b
 induction b with
 | zero=>intro _; exact a48 f a
 | succ b ih=>intro h; rw[a0b,ih fun j hj=>h j (by omega),h b (by omega)]; simp
theorem d6q:o8 Tryz.prog 112:=⟨Tryz.f112,Tryz.func112,by kernel_rfl,by kernel_rfl⟩
theorem d7n {l:List (Nat × PLoop)} {t:List (Nat × (List Slot→List MBlk→List Gh))} {s:List Nat}:a1q (112,⟨Tryz.f112,l,t,s⟩):=⟨Tryz.func112,d6q⟩
def q56D (E:List Ev) (R:List Int) (M:List (List Int)) (n:Int):Prop:=n9 (({ calls:=[d7t,c3o (no 7 ++ [some (.ps (d5 (f9 E R M) E.length E.length))])],inl:=[lisI E.length (f9 E R M) 6 7],takes:=[(2,fun _ _=>[.fresh 6 1 67 2])] }:Kit)).tab Tryz.f56 [.i .i64 n,.fn 112 [.ptr 0 0,.ptr 1 0]] (liM E R M) ((b1l E.length (b9 E.length (f9 E R M))).post EL)
theorem d5k (E:List Ev) (R:List Int) (M:List (List Int)) (n:Int):q56D E R M n=(
 let a:=f9 E R M
 let b:=(↑E.length:Int)
 let c:=((0:Int),(0:Int))
 let d:=n=n∧(True∧True)∧True∧True∧True∧True∧True∧n=n∧(n=n∧True)∧(True∧True)∧True∧True∧True∧True∧True∧True∧True∧True∧True
 let e:=bif d9 b (d5 a E.length E.length) then b9 b (e9 (d5 a E.length E.length)) else []
 let f:=c3r E.length a (6:Nat) (6:Nat) (7:Nat)
 let g:=E.length=E.length∧R.length=R.length∧M.length=M.length
 let h:=PLoop.of (a6y E.length a (10:Nat) (6:Nat) (7:Nat))
 let i:=(0:Int)
 let l:=(1:Nat)
 let m:=AV.ps (b9 b a)
 let o:=(1:Int)
 ∀(us:List Value) (cd:LupCd) (x:Option Addr × Nat),∃(x:PUnit),(∃(x:Nat),(x≤E.length∧True)∧(i=(↑x:Int)∧True)∧(n=b∧(0:Nat)=(d5 a E.length x).length)∧((0:Nat)=(d5 a E.length x).length∧(d5 a E.length x).length=(0:Nat)∧(d5 a E.length x).length=(0:Nat)∧True)∧True)∧∀(x_1:Nat),x_1≤E.length∧True→(decide ((↑x_1:Int) < b)=true→(i≤(↑x_1:Int)∧(↑x_1:Int) < b)∧x_1 < E.length∧∃(x_2:Nat),(∃(x:Nat),(x_2 < E.length∧x_2 + l≤x∧x≤E.length)∧(IntKind.i64.wrap ((↑x_1:Int) + o)=(↑x:Int)∧True)∧(b=b∧(d5 a E.length x_1).length=(d5 a E.length x_2 ++ f8 a x_2 x).length)∧((d5 a E.length x_1).length=(d5 a E.length x_2 ++ f8 a x_2 x).length∧(∀(j:Nat),j < (d5 a E.length x_2 ++ f8 a x_2 x).length→(b8 c (d5 a E.length x_1) j).fst=(b8 c (d5 a E.length x_2 ++ f8 a x_2 x) j).fst)∧(∀(j:Nat),j < (d5 a E.length x_2 ++ f8 a x_2 x).length→(b8 c (d5 a E.length x_1) j).snd=(b8 c (d5 a E.length x_2 ++ f8 a x_2 x) j).snd)∧True)∧True)∧∀(x_3:Nat),x_2 < E.length∧x_2 + l≤x_3∧x_3≤E.length→(decide ((↑x_3:Int) < b)=true→(i≤(↑x_3:Int)∧(↑x_3:Int) < b)∧x_3 < E.length∧(b16 (b8 e0 E x_1) (b8 e0 E x_3)=true→∀(us_1:List Value),us=us∧cd=cd∧us=us∧us=us∧cd=cd∧(d5 a E.length x_2 ++ f8 a x_2 x_3).length=(d5 a E.length x_2 ++ f8 a x_2 x_3).length∧l=l∧((d5 a E.length x_2 ++ f8 a x_2 x_3).length + l) * (16:Nat)≤(140737488355328:Nat)∧(d5 a E.length x_2 ++ f8 a x_2 x_3).length + l≤(9223372036854775807:Nat)∧us=us∧cd=cd∧us_1=us_1∧∃(x:Nat),(x_2 < E.length∧x_2 + l≤x∧x≤E.length)∧(f.ann x_2).mu x < (f.ann x_2).mu
 x_3∧(True∧True∧True∧(↑x_1:Int)=(↑x_1:Int)∧True∧IntKind.i64.wrap ((↑x_3:Int) + o)=(↑x:Int)∧True∧E.length=E.length∧b=b∧(↑x_1:Int)=(↑x_1:Int)∧true=true∧(↑x_1:Int)=(↑x_1:Int)∧x_1=x_1∧((b8 e0 E x_1).ag=(b8 e0 E x_1).ag∧(b8 e0 E x_1).ix=(b8 e0 E x_1).ix∧(b8 e0 E x_1).k=(b8 e0 E x_1).k∧(b8 e0 E x_1).ob=(b8 e0 E x_1).ob∧(b8 e0 E x_1).mu=(b8 e0 E x_1).mu∧(b8 e0 E x_1).en=(b8 e0 E x_1).en∧(b8 e0 E x_1).od=(b8 e0 E x_1).od∧(b8 e0 E x_1).rd=(b8 e0 E x_1).rd∧(b8 e0 E x_1).wr=(b8 e0 E x_1).wr)∧(↑x_1:Int)=(↑x_1:Int)∧IntKind.i64.wrap ((↑x_1:Int) + o)=IntKind.i64.wrap ((↑x_1:Int) + o)∧True)∧g∧True∧eqA E.length (g9 E)∧eqA R.length (j6 R)∧eqA M.length (l4 M)∧(i=i∧True)∧(b=b∧(d5 a E.length x_2 ++ f8 a x_2 x_3).length + l=(d5 a E.length x_2 ++ f8 a x_2 x).length)∧((d5 a E.length x_2 ++ f8 a x_2 x_3).length + l=(d5 a E.length x_2 ++ f8 a x_2 x).length∧(∀(j:Nat),j < (d5 a E.length x_2 ++ f8 a x_2 x).length→(bif j.blt (d5 a E.length x_2 ++ f8 a x_2 x_3).length then(b8 c (d5 a E.length x_2 ++ f8 a x_2 x_3) j).fst else e8 [(↑x_1:Int)] (j - (d5 a E.length x_2 ++ f8 a x_2 x_3).length))=(b8 c (d5 a E.length x_2 ++ f8 a x_2 x) j).fst)∧(∀(j:Nat),j < (d5 a E.length x_2 ++ f8 a x_2 x).length→(bif j.blt (d5 a E.length x_2 ++ f8 a x_2 x_3).length then(b8 c (d5 a E.length x_2 ++ f8 a x_2 x_3) j).snd else e8 [(↑x_3:Int)] (j - (d5 a E.length x_2 ++ f8 a x_2 x_3).length))=(b8 c (d5 a E.length x_2 ++ f8 a x_2 x) j).snd)∧True)∧(d∧us=us)∧(us=us∧cd=cd)∧((b8 e0 E x_1).ag=(b8 e0 E x_1).ag∧(b8 e0 E x_1).ix=(b8 e0 E
 x_1).ix∧(b8 e0 E x_1).k=(b8 e0 E x_1).k∧(b8 e0 E x_1).ob=(b8 e0 E x_1).ob∧(b8 e0 E x_1).mu=(b8 e0 E x_1).mu∧(b8 e0 E x_1).en=(b8 e0 E x_1).en∧(b8 e0 E x_1).od=(b8 e0 E x_1).od∧(b8 e0 E x_1).rd=(b8 e0 E x_1).rd∧(b8 e0 E x_1).wr=(b8 e0 E x_1).wr)∧True)∧(b16 (b8 e0 E x_1) (b8 e0 E x_3) =!true→∃(x:Nat),(x_2 < E.length∧x_2 + l≤x∧x≤E.length)∧(f.ann x_2).mu x < (f.ann x_2).mu x_3∧(True∧True∧True∧(↑x_1:Int)=(↑x_1:Int)∧True∧IntKind.i64.wrap ((↑x_3:Int) + o)=(↑x:Int)∧True∧E.length=E.length∧b=b∧(↑x_1:Int)=(↑x_1:Int)∧true=true∧(↑x_1:Int)=(↑x_1:Int)∧x_1=x_1∧((b8 e0 E x_1).ag=(b8 e0 E x_1).ag∧(b8 e0 E x_1).ix=(b8 e0 E x_1).ix∧(b8 e0 E x_1).k=(b8 e0 E x_1).k∧(b8 e0 E x_1).ob=(b8 e0 E x_1).ob∧(b8 e0 E x_1).mu=(b8 e0 E x_1).mu∧(b8 e0 E x_1).en=(b8 e0 E x_1).en∧(b8 e0 E x_1).od=(b8 e0 E x_1).od∧(b8 e0 E x_1).rd=(b8 e0 E x_1).rd∧(b8 e0 E x_1).wr=(b8 e0 E x_1).wr)∧(↑x_1:Int)=(↑x_1:Int)∧IntKind.i64.wrap ((↑x_1:Int) + o)=IntKind.i64.wrap ((↑x_1:Int) + o)∧True)∧g∧True∧eqA E.length (g9 E)∧eqA R.length (j6 R)∧eqA M.length (l4 M)∧(i=i∧True)∧(b=b∧(d5 a E.length x_2 ++ f8 a x_2 x_3).length=(d5 a E.length x_2 ++ f8 a x_2 x).length)∧((d5 a E.length x_2 ++ f8 a x_2 x_3).length=(d5 a E.length x_2 ++ f8 a x_2 x).length∧(∀(j:Nat),j < (d5 a E.length x_2 ++ f8 a x_2 x).length→(b8 c (d5 a E.length x_2 ++ f8 a x_2 x_3) j).fst=(b8 c (d5 a E.length x_2 ++ f8 a x_2 x) j).fst)∧(∀(j:Nat),j < (d5 a E.length x_2 ++ f8 a x_2 x).length→(b8 c (d5 a E.length x_2 ++ f8 a x_2 x_3) j).snd=(b8 c (d5 a E.length x_2 ++ f8 a x_2
 x) j).snd)∧True)∧(d∧us=us)∧(us=us∧cd=cd)∧((b8 e0 E x_1).ag=(b8 e0 E x_1).ag∧(b8 e0 E x_1).ix=(b8 e0 E x_1).ix∧(b8 e0 E x_1).k=(b8 e0 E x_1).k∧(b8 e0 E x_1).ob=(b8 e0 E x_1).ob∧(b8 e0 E x_1).mu=(b8 e0 E x_1).mu∧(b8 e0 E x_1).en=(b8 e0 E x_1).en∧(b8 e0 E x_1).od=(b8 e0 E x_1).od∧(b8 e0 E x_1).rd=(b8 e0 E x_1).rd∧(b8 e0 E x_1).wr=(b8 e0 E x_1).wr)∧True))∧(decide ((↑x_3:Int) < b)=false→∃(x_4:Nat),(x_4≤E.length∧True)∧(h.ann x).mu x_4 < (h.ann x).mu x_1∧(True∧True∧True∧True∧E.length=E.length∧b=b∧IntKind.i64.wrap ((↑x_1:Int) + o)=(↑x_4:Int)∧True)∧g∧True∧eqA E.length (g9 E)∧eqA R.length (j6 R)∧eqA M.length (l4 M)∧(i=i∧True)∧(b=b∧(d5 a E.length x_2 ++ f8 a x_2 x_3).length=(d5 a E.length x_4).length)∧((d5 a E.length x_2 ++ f8 a x_2 x_3).length=(d5 a E.length x_4).length∧(∀(j:Nat),j < (d5 a E.length x_4).length→(b8 c (d5 a E.length x_2 ++ f8 a x_2 x_3) j).fst=(b8 c (d5 a E.length x_4) j).fst)∧(∀(j:Nat),j < (d5 a E.length x_4).length→(b8 c (d5 a E.length x_2 ++ f8 a x_2 x_3) j).snd=(b8 c (d5 a E.length x_4) j).snd)∧True)∧(d∧us=us)∧(us=us∧cd=cd)∧True))∧(decide ((↑x_1:Int) < b)=false→us=us∧us=us∧cd=cd∧(d5 a E.length x_1).length=(d5 a E.length x_1).length∧mkN (fun(j:Nat)=>((b8 c (d5 a E.length x_1) j).fst,(b8 c (d5 a E.length x_1) j).snd)) (d5 a E.length x_1).length=d5 a E.length E.length∧(d5 a E.length E.length).length≤(1099511627776:Nat)∧(AV.ps e).len=m.len∧((∀(j:Nat),j < m.len→(b8 c e j).fst=(b8 c (b9 b a) j).fst)∧(∀(j:Nat),j < m.len→(b8 c e j).snd=(b8 c (b9 b a) j).snd)∧True)∧(bif d9 b
 (d5 a E.length E.length) then b else i)=b∧(AV.ps e).len=m.len∧True)):=by kernel_rfl
theorem v56 (E:List Ev) (R:List Int) (M:List (List Int)) (n:Int) (h:n=E.length∧(E.length:Int)≤64):q56D E R M n:=by
 rw[d5k]
 have h64:(E.length:Int)≤64:=h.2
 have hn:=h.1
 subst hn
 have hlen:=b8g (f9 E R M) (n:=E.length) (by omega)
 simp only[eq_self,true_and,and_true,z0p,imp_self,m5,n5,o0,g8,i9,PLoop.of,s5,AV.len,j5,z0v,j8,l5,l6,m6,m7,m8,a6y,c3r,PLoop.of,o0]
 refine fun cd=>⟨(),⟨0,by simp,rfl,?_⟩,fun a ha=>⟨fun hlt=>⟨⟨by omega,z0e hlt⟩,?_,a,⟨a + 1,?_⟩,fun b hb=>⟨fun hlb=>⟨⟨by omega,z0e hlb⟩,?_,fun hf=>?_,fun hf=>?_⟩,fun hlb=>?_⟩⟩,fun hlt=>?_⟩⟩
 ·simp[a2n]
 ·have:=z0e hlt; omega
 ·have ha2:a < E.length:=by have:=z0e hlt; omega
  have e:f8 (f9 E R M) a (a + 1)=[]:=c4s fun j hj=>d4j (by omega)
  rw[e,z1f]
  exact⟨⟨ha2,by omega,by omega⟩,wrS (n:=E.length) ha2 (by omega),rfl,rfl,fun _ _=>rfl,fun _ _=>rfl⟩
 ·have:=z0e hlb; omega
 ·have hb2:b < E.length:=by have:=z0e hlb; omega
  have h1:=hlen a b hb.1 hb.2.2
  replace hf:(f9 E R M) a b=true:=by
   have:decide ((a:Int) < (b:Int))=true:=by simp; omega
   simp only[f9,this,z1j]; exact hf
  have e:f8 (f9 E R M) a (b + 1)=f8 (f9 E R M) a b ++ [((a:Int),(b:Int))]:=by rw[a0b,if_pos hf]
  have e2:d5 (f9 E R M) E.length a ++ f8 (f9 E R M) a (b + 1)=(d5 (f9 E R M) E.length a ++ f8 (f9 E R M) a b) ++ [((a:Int),(b:Int))]:=by rw[e,z1y]
  refine⟨by omega,by omega,b + 1,⟨hb.1,by omega,by omega⟩,by omega,wrS (n:=E.length) hb2 (by omega),?_⟩
  rw[e2]
  have e3:(d5 (f9 E R M) E.length a ++ f8 (f9 E R M) a b ++ [((a:Int),(b:Int))]).length=(d5 (f9 E R M) E.length a ++ f8 (f9 E R M) a b).length + 1:=by rw[z1b (bs:=[((a:Int),(b:Int))])]; rfl
  exact⟨e3.symm,e3.symm,ap1 (·.1) _ _,ap1 (·.2) _ _⟩
 ·have hb2:b < E.length:=by have:=z0e hlb; omega
  replace hf:(f9 E R M) a b=false:=by
   have:decide ((a:Int) < (b:Int))=true:=by simp; omega
   simp only[f9,this,z1j]; exact hf
  have e:f8 (f9 E R M) a (b + 1)=f8 (f9 E R M) a b:=by rw[a0b,if_neg (by rw[hf]; simp),z1f]
  refine⟨b + 1,⟨hb.1,by omega,by omega⟩,by omega,wrS (n:=E.length) hb2 (by omega),?_⟩
  rw[e]
  simp
 ·have hb2:b=E.length:=by have:=z0l hlb; omega
  have e:d5 (f9 E R M) E.length (a + 1)=d5 (f9 E R M) E.length a ++ f8 (f9 E R M) a b:=by rw[a1k,hb2]
  refine⟨a + 1,by omega,by omega,wrS (n:=E.length) hb.1 (by omega),?_⟩
  rw[e]
  simp
 ·have ha2:a=E.length:=by have:=z0l hlt; omega
  subst ha2
  obtain⟨n1,n2⟩:=a7k (f9 E R M) (n:=E.length) (by omega)
  have h1:=a2z (f9 E R M) E.length E.length
  have h3:E.length * E.length≤64 * 64:=z2x (by omega) (by omega)
  rw[n1]
  simp only[z0f,n2]
  simp only[z0p,and_self,and_true,true_and]
  omega
theorem n56 (nm:List (Option AV)):CallOk Tryz.prog [] 56 (n8 EL none nm [.lf .i,PL] d47):=y5 Tryz.func56 fo56 fun av pre rv h=>by
 unfold d47 at h; split at h <;> cases h
 exact⟨⟨rfl,fun t a e=>by cases e <;> exact z0k _ _⟩,fun hp=>⟨_,v56 _ _ _ _ (hp _ (.head _)),rfl,(m9 (n58 _) (m9 (c48 _) v4)),(a3q d7n v5)⟩⟩
def a2m (R:List Int) (x:Int):Nat→List Int
 | 0=>[]
 | s + 1=>a2m R x s ++ [atF R x s]
def a6q (R:List Int) (x:Int) (s:Nat):Bool:=decide (atF R x s < 0) || (a2m R x s).contains (atF R x s)
def chS (R:List Int) (x:Int):Nat→Nat→Nat
 | 0,s=>s
 | f + 1,s=>bif a6q R x s then s else chS R x f (s + 1)
def swR (E:List Ev) (R:List Int) (x:Int) (k:Int):Nat→List Pq
 | 0=>[]
 | s + 1=>bif (evA E (atF R x s)).od == 2 then swR E R x k s ++ [(atF R x s,k)] else swR E R x k s
def swK (E:List Ev) (R:List Int) (k:Int):List Pq:=bif !rdE (evA E k) || (evA E k).od != 2 then [] else swR E R (inA R k) k (chS R (inA R k) (E.length + 1) 0)
def swP (E:List Ev) (R:List Int):Nat→List Pq
 | 0=>[]
 | k + 1=>swP E R k ++ swK E R k
def w9:GF:=fun E R _=>e9 (swP E R E.length)
def chIn (E:List Ev) (R:List Int) (k s:Nat):Prop:=k < E.length∧rdE (evA E k)=true∧(evA E k).od=2∧(∀ j:Nat,j < s→0≤atF R (inA R k) j∧atF R (inA R k) j < E.length)∧(a2m R (inA R k) s).Nodup∧chS R (inA R k) (E.length + 1) 0=chS R (inA R k) (E.length + 1 - s) s
def lSw (E:List Ev) (R:List Int) (t c e:Nat):LAnn:=s5 E.length t (fun _=>True) (fun k=>[(c,.cells [.i .i64 (E.length:Int),.sl e (swP E R k).length]),b8x e (swP E R k)]) [e]
def lCh (E:List Ev) (R:List Int) (t c e r:Nat):PLoop:=⟨Nat,fun k=>{ X:=Nat,inv:=chIn E R k,slots:=fun s=>[(t,.i .i64 (atF R (inA R k) s))],mem:=fun s=>[(c,.cells [.i .i64 (E.length:Int),.sl e (swP E R k ++ swR E R (inA R k) k s).length]),b8x e (swP E R k ++ swR E R (inA R k) k s),(r,.mapi .i64 none (a27 (a2m R (inA R k) s)))],mu:=fun s=>E.length + 1 - s,kill:=[e] }⟩
noncomputable def chI (E:List Ev) (R:List Int) (c e r:Nat):Nat × Inl:=(146,{ fn:=Tryz.f146,loops:=[(0,lCh E R 5 c e r)] })
def kChn:Nat × (List MBlk→List SV→Option AR):=(108,b6a)
def pgS:GP:=fun E R _ _ _=>(E.length:Int)≤64∧b4x E R
end Go.Proofs.YtaeeaniofljmnaaGreatDoor
