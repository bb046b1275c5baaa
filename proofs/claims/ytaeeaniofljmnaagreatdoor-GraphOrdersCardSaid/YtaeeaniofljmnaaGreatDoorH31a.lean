/-
  A part of the proof (H31a).
-/
import Derived.Test.YtaeeaniofljmnaaGreatDoorH27a
namespace Go.Proofs.YtaeeaniofljmnaaGreatDoor
set_option linter.unusedSimpArgs false
set_option linter.unusedVariables false
open Go Go.Proofs.YtaeeaniofljmnaaGreatDoor.Sx
set_option maxRecDepth 100000
def pgM:GP:=fun E _ M _ _=>(E.length:Int)≤64∧SzG E M∧M.length≤8
def pgF:GP:=fun E R M _ _=>(E.length:Int)≤64∧R.length=E.length∧SzG E M∧M.length≤8
def a6k (pc:GP) (fn:GF):SpG:=fun
 | [.ag [.es E,.is R,.rs M]]=>some ([pc E R M 0 0],a9m E.length (b7 E.length (fn E R M)))
 | _=>none
theorem fo62:o6 Tryz.prog 62:=⟨Tryz.f62,Tryz.func62,by kernel_rfl,by kernel_rfl⟩
theorem fo49:o6 Tryz.prog 49:=⟨Tryz.f49,Tryz.func49,by kernel_rfl,by kernel_rfl⟩
theorem d77:o6 Tryz.prog 118:=⟨Tryz.f118,Tryz.func118,by kernel_rfl,by kernel_rfl⟩
theorem d88 {l:List (Nat × PLoop)} {t:List (Nat × (List Slot→List MBlk→List Gh))} {s:List Nat}:a2e (118,⟨Tryz.f118,l,t,s⟩):=⟨Tryz.func118,d77⟩
theorem d6x:o6 Tryz.prog 106:=⟨Tryz.f106,Tryz.func106,by kernel_rfl,by kernel_rfl⟩
theorem d86 {l:List (Nat × PLoop)} {t:List (Nat × (List Slot→List MBlk→List Gh))} {s:List Nat}:a2e (106,⟨Tryz.f106,l,t,s⟩):=⟨Tryz.func106,d6x⟩
def q62D (E:List Ev) (R:List Int) (M:List (List Int)):Prop:=n7 (({ calls:=[c97,kPl (nmG E R M),c3k (no 12 ++ [some (.ps (b9 (i4 E R M) E.length E.length))]),kE1 81 wrE],inl:=[c92 11,allI E.length (i4 E R M) 11 12,(118,{ fn:=Tryz.f118 })] }:Kit)).tab Tryz.f62 [grV E R M] (grM E R M) ((a9m E.length (b7 E.length (i4 E R M))).post EL)
theorem d61 (E:List Ev) (R:List Int) (M:List (List Int)):q62D E R M=(E.length=E.length∧R.length=R.length∧M.length=M.length∧nE E∧nI R∧nR M∧((E.length≤(1099511627776:Nat)∧(M.length≤(8:Nat)→∀(r:List Int),List.Mem r M→r.length≤(1099511627776:Nat)))∧M.length≤(8:Nat))∧∀(us us_1:List Value) (cd:LupCd) (x:Option Addr × Nat),∃(x:PUnit),(∃(x:Nat),(x≤E.length∧True)∧((0:Int)=(↑x:Int)∧True)∧((↑E.length:Int)=(↑E.length:Int)∧(0:Nat)=(b9 (i4 E R M) E.length x).length)∧((0:Nat)=(b9 (i4 E R M) E.length x).length∧(b9 (i4 E R M) E.length x).length=(0:Nat)∧(b9 (i4 E R M) E.length x).length=(0:Nat)∧True)∧True)∧∀(x_1:Nat),x_1≤E.length∧True→(decide ((↑x_1:Int) < (↑E.length:Int))=true→∃(x_2:Nat),(∃(x:Nat),(x≤E.length∧x_2 < E.length)∧((0:Int)=(↑x:Int)∧True)∧((↑E.length:Int)=(↑E.length:Int)∧(b9 (i4 E R M) E.length x_1).length=(b9 (i4 E R M) E.length x_2 ++ d7 (i4 E R M) x_2 x).length)∧((b9 (i4 E R M) E.length x_1).length=(b9 (i4 E R M) E.length x_2 ++ d7 (i4 E R M) x_2 x).length∧(∀(j:Nat),j < (b9 (i4 E R M) E.length x_2 ++ d7 (i4 E R M) x_2 x).length→(b6 ((0:Int),(0:Int)) (b9 (i4 E R M) E.length x_1) j).fst=(b6 ((0:Int),(0:Int)) (b9 (i4 E R M) E.length x_2 ++ d7 (i4 E R M) x_2 x) j).fst)∧(∀(j:Nat),j < (b9 (i4 E R M) E.length x_2 ++ d7 (i4 E R M) x_2 x).length→(b6 ((0:Int),(0:Int)) (b9 (i4 E
 R M) E.length x_1) j).snd=(b6 ((0:Int),(0:Int)) (b9 (i4 E R M) E.length x_2 ++ d7 (i4 E R M) x_2 x) j).snd)∧True)∧True)∧∀(x_3:Nat),x_3≤E.length∧x_2 < E.length→(decide ((↑x_3:Int) < (↑E.length:Int))=true→∀(us_2:List Value),((0:Int)≤(↑x_1:Int)∧(↑x_1:Int) < (↑E.length:Int))∧x_1 < E.length∧((0:Int)≤(↑x_3:Int)∧(↑x_3:Int) < (↑E.length:Int))∧x_3 < E.length∧us_2=us_2∧((wrE (b6 e0 E x_1) && wrE (b6 e0 E x_3) && (b6 e0 E x_1).ob == (b6 e0 E x_3).ob && decide (a1e (plM M (↑x_1:Int)) < a1e (plM M (↑x_3:Int))))=true→∀(us_3:List Value),us_1=us_1∧cd=cd∧us_1=us_1∧us_1=us_1∧cd=cd∧(b9 (i4 E R M) E.length x_2 ++ d7 (i4 E R M) x_2 x_3).length=(b9 (i4 E R M) E.length x_2 ++ d7 (i4 E R M) x_2 x_3).length∧(1:Nat)=(1:Nat)∧((b9 (i4 E R M) E.length x_2 ++ d7 (i4 E R M) x_2 x_3).length + (1:Nat)) * (16:Nat)≤(140737488355328:Nat)∧(b9 (i4 E R M) E.length x_2 ++ d7 (i4 E R M) x_2 x_3).length + (1:Nat)≤(9223372036854775807:Nat)∧us_1=us_1∧cd=cd∧us_3=us_3∧∃(x:Nat),(x≤E.length∧x_2 < E.length)∧((a3l E.length (i4 E R M) (15:Nat) (11:Nat) (12:Nat)).ann x_2).mu x < ((a3l E.length (i4 E R M) (15:Nat) (11:Nat) (12:Nat)).ann x_2).mu x_3∧(True∧True∧True∧(↑x_1:Int)=(↑x_1:Int)∧True∧E.length=E.length∧(↑E.length:Int)=(↑E.length:Int)∧(↑x_1:Int)=(↑x_1:Int)∧true =
 true∧(↑x_1:Int)=(↑x_1:Int)∧True∧E.length=E.length∧(↑E.length:Int)=(↑E.length:Int)∧IntKind.i64.wrap ((↑x_3:Int) + (1:Int))=(↑x:Int)∧True)∧eqA E.length (l5 E)∧eqA R.length (j5 R)∧eqA M.length (j9 M)∧(E.length=E.length∧R.length=R.length∧M.length=M.length)∧((0:Int)=(0:Int)∧True)∧(∀(x:Int),plM M x=plM M x)∧True∧(E.length=E.length∧R.length=R.length∧M.length=M.length)∧(True∧True)∧(((E.length=E.length∧R.length=R.length∧M.length=M.length)∧True∧True∧True∧(E.length=E.length∧R.length=R.length∧M.length=M.length)∧True∧True∧E.length=E.length∧(↑E.length:Int)=(↑E.length:Int)∧(E.length=E.length∧R.length=R.length∧M.length=M.length)∧(True∧True)∧(True∧True)∧True)∧us=us)∧((0:Int)=(0:Int)∧True)∧((↑E.length:Int)=(↑E.length:Int)∧(b9 (i4 E R M) E.length x_2 ++ d7 (i4 E R M) x_2 x_3).length + (1:Nat)=(b9 (i4 E R M) E.length x_2 ++ d7 (i4 E R M) x_2 x).length)∧((b9 (i4 E R M) E.length x_2 ++ d7 (i4 E R M) x_2 x_3).length + (1:Nat)=(b9 (i4 E R M) E.length x_2 ++ d7 (i4 E R M) x_2 x).length∧(∀(j:Nat),j < (b9 (i4 E R M) E.length x_2 ++ d7 (i4 E R M) x_2 x).length→(bif j.blt (b9 (i4 E R M) E.length x_2 ++ d7 (i4 E R M) x_2 x_3).length then(b6 ((0:Int),(0:Int)) (b9 (i4 E R M) E.length x_2 ++ d7 (i4 E R M) x_2 x_3) j).fst else e8 [(↑x_1
 : Int)] (j - (b9 (i4 E R M) E.length x_2 ++ d7 (i4 E R M) x_2 x_3).length))=(b6 ((0:Int),(0:Int)) (b9 (i4 E R M) E.length x_2 ++ d7 (i4 E R M) x_2 x) j).fst)∧(∀(j:Nat),j < (b9 (i4 E R M) E.length x_2 ++ d7 (i4 E R M) x_2 x).length→(bif j.blt (b9 (i4 E R M) E.length x_2 ++ d7 (i4 E R M) x_2 x_3).length then(b6 ((0:Int),(0:Int)) (b9 (i4 E R M) E.length x_2 ++ d7 (i4 E R M) x_2 x_3) j).snd else e8 [(↑x_3:Int)] (j - (b9 (i4 E R M) E.length x_2 ++ d7 (i4 E R M) x_2 x_3).length))=(b6 ((0:Int),(0:Int)) (b9 (i4 E R M) E.length x_2 ++ d7 (i4 E R M) x_2 x) j).snd)∧True)∧(((↑E.length:Int)=(↑E.length:Int)∧(True∧True)∧True∧True∧True∧True∧True∧(↑E.length:Int)=(↑E.length:Int)∧((↑E.length:Int)=(↑E.length:Int)∧True)∧(True∧True)∧True∧True∧True∧True∧True∧True∧True∧True∧True)∧us_1=us_1)∧(us_1=us_1∧cd=cd)∧True)∧((wrE (b6 e0 E x_1) && wrE (b6 e0 E x_3) && (b6 e0 E x_1).ob == (b6 e0 E x_3).ob && decide (a1e (plM M (↑x_1:Int)) < a1e (plM M (↑x_3:Int)))) = !true→∃(x:Nat),(x≤E.length∧x_2 < E.length)∧((a3l E.length (i4 E R M) (15:Nat) (11:Nat) (12:Nat)).ann x_2).mu x < ((a3l E.length (i4 E R M) (15:Nat) (11:Nat) (12:Nat)).ann x_2).mu x_3∧(True∧True∧True∧(↑x_1:Int)=(↑x_1:Int)∧True∧E.length=E.length∧(↑E.length:Int)=(↑E.length:Int)∧(↑x_1:Int)=(↑x_1:Int)
 ∧ true=true∧(↑x_1:Int)=(↑x_1:Int)∧True∧E.length=E.length∧(↑E.length:Int)=(↑E.length:Int)∧IntKind.i64.wrap ((↑x_3:Int) + (1:Int))=(↑x:Int)∧True)∧eqA E.length (l5 E)∧eqA R.length (j5 R)∧eqA M.length (j9 M)∧(E.length=E.length∧R.length=R.length∧M.length=M.length)∧((0:Int)=(0:Int)∧True)∧(∀(x:Int),plM M x=plM M x)∧True∧(E.length=E.length∧R.length=R.length∧M.length=M.length)∧(True∧True)∧(((E.length=E.length∧R.length=R.length∧M.length=M.length)∧True∧True∧True∧(E.length=E.length∧R.length=R.length∧M.length=M.length)∧True∧True∧E.length=E.length∧(↑E.length:Int)=(↑E.length:Int)∧(E.length=E.length∧R.length=R.length∧M.length=M.length)∧(True∧True)∧(True∧True)∧True)∧us=us)∧((0:Int)=(0:Int)∧True)∧((↑E.length:Int)=(↑E.length:Int)∧(b9 (i4 E R M) E.length x_2 ++ d7 (i4 E R M) x_2 x_3).length=(b9 (i4 E R M) E.length x_2 ++ d7 (i4 E R M) x_2 x).length)∧((b9 (i4 E R M) E.length x_2 ++ d7 (i4 E R M) x_2 x_3).length=(b9 (i4 E R M) E.length x_2 ++ d7 (i4 E R M) x_2 x).length∧(∀(j:Nat),j < (b9 (i4 E R M) E.length x_2 ++ d7 (i4 E R M) x_2 x).length→(b6 ((0:Int),(0:Int)) (b9 (i4 E R M) E.length x_2 ++ d7 (i4 E R M) x_2 x_3) j).fst=(b6 ((0:Int),(0:Int)) (b9 (i4 E R M) E.length x_2 ++ d7 (i4 E R M) x_2 x) j).fst)∧(∀(j:Nat),j
 < (b9 (i4 E R M) E.length x_2 ++ d7 (i4 E R M) x_2 x).length→(b6 ((0:Int),(0:Int)) (b9 (i4 E R M) E.length x_2 ++ d7 (i4 E R M) x_2 x_3) j).snd=(b6 ((0:Int),(0:Int)) (b9 (i4 E R M) E.length x_2 ++ d7 (i4 E R M) x_2 x) j).snd)∧True)∧(((↑E.length:Int)=(↑E.length:Int)∧(True∧True)∧True∧True∧True∧True∧True∧(↑E.length:Int)=(↑E.length:Int)∧((↑E.length:Int)=(↑E.length:Int)∧True)∧(True∧True)∧True∧True∧True∧True∧True∧True∧True∧True∧True)∧us_1=us_1)∧(us_1=us_1∧cd=cd)∧True))∧(decide ((↑x_3:Int) < (↑E.length:Int))=false→∃(x_4:Nat),(x_4≤E.length∧True)∧((PLoop.of (a5a E.length (i4 E R M) (9:Nat) (11:Nat) (12:Nat))).ann x).mu x_4 < ((PLoop.of (a5a E.length (i4 E R M) (9:Nat) (11:Nat) (12:Nat))).ann x).mu x_1∧(True∧True∧True∧True∧E.length=E.length∧(↑E.length:Int)=(↑E.length:Int)∧IntKind.i64.wrap ((↑x_1:Int) + (1:Int))=(↑x_4:Int)∧True)∧eqA E.length (l5 E)∧eqA R.length (j5 R)∧eqA M.length (j9 M)∧(E.length=E.length∧R.length=R.length∧M.length=M.length)∧((0:Int)=(0:Int)∧True)∧(∀(x:Int),plM M x=plM M x)∧True∧(E.length=E.length∧R.length=R.length∧M.length=M.length)∧(True∧True)∧(((E.length=E.length∧R.length=R.length∧M.length=M.length)∧True∧True∧True∧(E.length=E.length∧R.length=R.length∧M.length=M.length)∧True∧True ∧
 E.length=E.length∧(↑E.length:Int)=(↑E.length:Int)∧(E.length=E.length∧R.length=R.length∧M.length=M.length)∧(True∧True)∧(True∧True)∧True)∧us=us)∧((0:Int)=(0:Int)∧True)∧((↑E.length:Int)=(↑E.length:Int)∧(b9 (i4 E R M) E.length x_2 ++ d7 (i4 E R M) x_2 x_3).length=(b9 (i4 E R M) E.length x_4).length)∧((b9 (i4 E R M) E.length x_2 ++ d7 (i4 E R M) x_2 x_3).length=(b9 (i4 E R M) E.length x_4).length∧(∀(j:Nat),j < (b9 (i4 E R M) E.length x_4).length→(b6 ((0:Int),(0:Int)) (b9 (i4 E R M) E.length x_2 ++ d7 (i4 E R M) x_2 x_3) j).fst=(b6 ((0:Int),(0:Int)) (b9 (i4 E R M) E.length x_4) j).fst)∧(∀(j:Nat),j < (b9 (i4 E R M) E.length x_4).length→(b6 ((0:Int),(0:Int)) (b9 (i4 E R M) E.length x_2 ++ d7 (i4 E R M) x_2 x_3) j).snd=(b6 ((0:Int),(0:Int)) (b9 (i4 E R M) E.length x_4) j).snd)∧True)∧(((↑E.length:Int)=(↑E.length:Int)∧(True∧True)∧True∧True∧True∧True∧True∧(↑E.length:Int)=(↑E.length:Int)∧((↑E.length:Int)=(↑E.length:Int)∧True)∧(True∧True)∧True∧True∧True∧True∧True∧True∧True∧True∧True)∧us_1=us_1)∧(us_1=us_1∧cd=cd)∧True))∧(decide ((↑x_1:Int) < (↑E.length:Int))=false→us_1=us_1∧us_1=us_1∧cd=cd∧(b9 (i4 E R M) E.length x_1).length=(b9 (i4 E R M) E.length x_1).length∧mkN (fun(j:Nat)=>((b6 ((0:Int),(0:Int)) (b9
 (i4 E R M) E.length x_1) j).fst,(b6 ((0:Int),(0:Int)) (b9 (i4 E R M) E.length x_1) j).snd)) (b9 (i4 E R M) E.length x_1).length=b9 (i4 E R M) E.length E.length∧(b9 (i4 E R M) E.length E.length).length≤(1099511627776:Nat)∧us=us∧(AV.ps (bif d8 (↑E.length:Int) (b9 (i4 E R M) E.length E.length) then b7 (↑E.length:Int) (d9 (b9 (i4 E R M) E.length E.length)) else [])).len=(AV.ps (b7 (↑E.length:Int) (i4 E R M))).len∧((∀(j:Nat),j < (AV.ps (b7 (↑E.length:Int) (i4 E R M))).len→(b6 ((0:Int),(0:Int)) (bif d8 (↑E.length:Int) (b9 (i4 E R M) E.length E.length) then b7 (↑E.length:Int) (d9 (b9 (i4 E R M) E.length E.length)) else []) j).fst=(b6 ((0:Int),(0:Int)) (b7 (↑E.length:Int) (i4 E R M)) j).fst)∧(∀(j:Nat),j < (AV.ps (b7 (↑E.length:Int) (i4 E R M))).len→(b6 ((0:Int),(0:Int)) (bif d8 (↑E.length:Int) (b9 (i4 E R M) E.length E.length) then b7 (↑E.length:Int) (d9 (b9 (i4 E R M) E.length E.length)) else []) j).snd=(b6 ((0:Int),(0:Int)) (b7 (↑E.length:Int) (i4 E R M)) j).snd)∧True)∧(bif d8 (↑E.length:Int) (b9 (i4 E R M) E.length E.length) then(↑E.length:Int) else(0:Int))=(↑E.length:Int)∧(AV.ps (bif d8 (↑E.length:Int) (b9 (i4 E R M) E.length E.length) then b7 (↑E.length:Int) (d9 (b9 (i4 E R M) E.length E.length)) else [])).len=(AV.ps (b7 (↑E.length:Int)
 (i4 E R M))).len∧True)):=by kernel_rfl
theorem v62 (E:List Ev) (R:List Int) (M:List (List Int)) (h:pgM E R M 0 0):q62D E R M:=by
 rw[d61]
 have h64:(E.length:Int)≤64:=h.1
 have hlen:=b5b (i4 E R M) (n:=E.length) (by omega)
 simp only[eq_self,true_and,and_true,z0o,imp_self,m5,m6,m9,g7,g9,PLoop.of,p9,AV.len,i5,z0s,j4,j7,j8,l7,l8,l9,a5a,a3l,PLoop.of,m9]
 refine⟨⟨⟨h.2.1.1,h.2.1.2⟩,h.2.2⟩,fun cd=>⟨(),⟨0,by simp,rfl,?_⟩,fun a ha=>⟨fun hlt=>⟨a,⟨0,?_⟩,fun b hb=>⟨fun hlb=>⟨⟨by have:=z0e hlt; have:=z0e hlb; omega,by have:=z0e hlt; have:=z0e hlb; omega⟩,(by have:=z0e hlt; have:=z0e hlb; omega),⟨by have:=z0e hlt; have:=z0e hlb; omega,by have:=z0e hlt; have:=z0e hlb; omega⟩,(by have:=z0e hlt; have:=z0e hlb; omega),fun hf=>?_,fun hf=>?_⟩,fun hlb=>?_⟩⟩,fun hlt=>?_⟩⟩⟩
 ·simp[a26]
 ·have ha2:a < E.length:=by have:=z0e hlt; omega
  simp[a3s,ha2]
 ·have hb2:b < E.length:=by have:=z0e hlb; omega
  have h1:=hlen a b hb.2 hb.1
  replace hf:(i4 E R M) a b=true:=hf
  have e:d7 (i4 E R M) a (b + 1)=d7 (i4 E R M) a b ++ [((a:Int),(b:Int))]:=by rw[z4,if_pos hf]
  have e2:b9 (i4 E R M) E.length a ++ d7 (i4 E R M) a (b + 1)=(b9 (i4 E R M) E.length a ++ d7 (i4 E R M) a b) ++ [((a:Int),(b:Int))]:=by rw[e,z1x]
  refine⟨by omega,by omega,b + 1,⟨by omega,hb.2⟩,by omega,wrS (n:=E.length) hb2 (by omega),?_⟩
  rw[e2]
  have e3:(b9 (i4 E R M) E.length a ++ d7 (i4 E R M) a b ++ [((a:Int),(b:Int))]).length=(b9 (i4 E R M) E.length a ++ d7 (i4 E R M) a b).length + 1:=by rw[z1a (bs:=[((a:Int),(b:Int))])]; rfl
  exact⟨e3.symm,e3.symm,ap1 (·.1) _ _,ap1 (·.2) _ _⟩
 ·have hb2:b < E.length:=by have:=z0e hlb; omega
  replace hf:(i4 E R M) a b=false:=hf
  have e:d7 (i4 E R M) a (b + 1)=d7 (i4 E R M) a b:=by rw[z4,if_neg (by rw[hf]; simp),z1f]
  refine⟨b + 1,⟨by omega,hb.2⟩,by omega,wrS (n:=E.length) hb2 (by omega),?_⟩
  rw[e]
  simp
 ·have hb2:b=E.length:=by have:=z0m hlb; omega
  have e:b9 (i4 E R M) E.length (a + 1)=b9 (i4 E R M) E.length a ++ d7 (i4 E R M) a b:=by rw[a15,hb2]
  refine⟨a + 1,by omega,by omega,wrS (n:=E.length) hb.2 (by omega),?_⟩
  rw[e]
  simp
 ·have ha2:a=E.length:=by have:=z0m hlt; omega
  subst ha2
  obtain⟨n1,n2⟩:=a7k (i4 E R M) (n:=E.length) (by omega)
  have h1:=a2j (i4 E R M) E.length E.length
  have h3:E.length * E.length≤64 * 64:=z2v (by omega) (by omega)
  rw[n1]
  simp only[z0g,n2]
  simp only[z0o,and_self,and_true,true_and]
  omega
def q49D (E:List Ev) (R:List Int) (M:List (List Int)):Prop:=n7 (({ calls:=[c97,kPl (nmG E R M),c3k (no 12 ++ [some (.ps (b9 (g8 E R M) E.length E.length))]),kE1 81 wrE,kE1 80 rdE],inl:=[c92 11,allI E.length (g8 E R M) 11 12,(106,{ fn:=Tryz.f106 })] }:Kit)).tab Tryz.f49 [grV E R M] (grM E R M) ((a9m E.length (b7 E.length (g8 E R M))).post EL)
theorem d5s (E:List Ev) (R:List Int) (M:List (List Int)):q49D E R M=(E.length=E.length∧R.length=R.length∧M.length=M.length∧nE E∧nI R∧nR M∧((E.length≤(1099511627776:Nat)∧(M.length≤(8:Nat)→∀(r:List Int),List.Mem r M→r.length≤(1099511627776:Nat)))∧M.length≤(8:Nat))∧∀(us us_1:List Value) (cd:LupCd) (x:Option Addr × Nat),∃(x:PUnit),(∃(x:Nat),(x≤E.length∧True)∧((0:Int)=(↑x:Int)∧True)∧((↑E.length:Int)=(↑E.length:Int)∧(0:Nat)=(b9 (g8 E R M) E.length x).length)∧((0:Nat)=(b9 (g8 E R M) E.length x).length∧(b9 (g8 E R M) E.length x).length=(0:Nat)∧(b9 (g8 E R M) E.length x).length=(0:Nat)∧True)∧True)∧∀(x_1:Nat),x_1≤E.length∧True→(decide ((↑x_1:Int) < (↑E.length:Int))=true→∃(x_2:Nat),(∃(x:Nat),(x≤E.length∧x_2 < E.length)∧((0:Int)=(↑x:Int)∧True)∧((↑E.length:Int)=(↑E.length:Int)∧(b9 (g8 E R M) E.length x_1).length=(b9 (g8 E R M) E.length x_2 ++ d7 (g8 E R M) x_2 x).length)∧((b9 (g8 E R M) E.length x_1).length=(b9 (g8 E R M) E.length x_2 ++ d7 (g8 E R M) x_2 x).length∧(∀(j:Nat),j < (b9 (g8 E R M) E.length x_2 ++ d7 (g8 E R M) x_2 x).length→(b6 ((0:Int),(0:Int)) (b9 (g8 E R M) E.length x_1) j).fst=(b6 ((0:Int),(0:Int)) (b9 (g8 E R M) E.length x_2 ++ d7 (g8 E R M) x_2 x) j).fst)∧(∀(j:Nat),j < (b9 (g8 E R M) E.length x_2 ++ d7 (g8 E R M) x_2 x).length→(b6 ((0:Int),(0:Int)) (b9 (g8 E
 R M) E.length x_1) j).snd=(b6 ((0:Int),(0:Int)) (b9 (g8 E R M) E.length x_2 ++ d7 (g8 E R M) x_2 x) j).snd)∧True)∧True)∧∀(x_3:Nat),x_3≤E.length∧x_2 < E.length→(decide ((↑x_3:Int) < (↑E.length:Int))=true→∀(us_2:List Value),((0:Int)≤(↑x_1:Int)∧(↑x_1:Int) < (↑E.length:Int))∧x_1 < E.length∧((0:Int)≤(↑x_3:Int)∧(↑x_3:Int) < (↑E.length:Int))∧x_3 < E.length∧(((↑x_1:Int) != (↑x_3:Int) && rdE (b6 e0 E x_1) && wrE (b6 e0 E x_3) && (b6 e0 E x_1).ob == (b6 e0 E x_3).ob)=true→(0:Int)≤(↑x_1:Int)∧(↑x_1:Int) < (↑R.length:Int))∧(((↑x_1:Int) != (↑x_3:Int) && rdE (b6 e0 E x_1) && wrE (b6 e0 E x_3) && (b6 e0 E x_1).ob == (b6 e0 E x_3).ob)=true→x_1 < R.length)∧(decide (b6 (0:Int) R x_1 < (0:Int))=false→((↑x_1:Int) != (↑x_3:Int) && rdE (b6 e0 E x_1) && wrE (b6 e0 E x_3) && (b6 e0 E x_1).ob == (b6 e0 E x_3).ob)=true→(0:Int)≤(↑x_1:Int)∧(↑x_1:Int) < (↑R.length:Int))∧(decide (b6 (0:Int) R x_1 < (0:Int))=false→((↑x_1:Int) != (↑x_3:Int) && rdE (b6 e0 E x_1) && wrE (b6 e0 E x_3) && (b6 e0 E x_1).ob == (b6 e0 E x_3).ob)=true→x_1 < R.length)∧us_2=us_2∧(((↑x_1:Int) != (↑x_3:Int) && rdE (b6 e0 E x_1) && wrE (b6 e0 E x_3) && (b6 e0 E x_1).ob == (b6 e0 E x_3).ob && (decide (b6 (0:Int) R x_1 < (0:Int)) || decide (a1e (plM M (b6 (0:Int) R x_1)) < a1e (plM M (↑x_3:Int)))))=true→∀(us_3 :
 List Value),us_1=us_1∧cd=cd∧us_1=us_1∧us_1=us_1∧cd=cd∧(b9 (g8 E R M) E.length x_2 ++ d7 (g8 E R M) x_2 x_3).length=(b9 (g8 E R M) E.length x_2 ++ d7 (g8 E R M) x_2 x_3).length∧(1:Nat)=(1:Nat)∧((b9 (g8 E R M) E.length x_2 ++ d7 (g8 E R M) x_2 x_3).length + (1:Nat)) * (16:Nat)≤(140737488355328:Nat)∧(b9 (g8 E R M) E.length x_2 ++ d7 (g8 E R M) x_2 x_3).length + (1:Nat)≤(9223372036854775807:Nat)∧us_1=us_1∧cd=cd∧us_3=us_3∧∃(x:Nat),(x≤E.length∧x_2 < E.length)∧((a3l E.length (g8 E R M) (15:Nat) (11:Nat) (12:Nat)).ann x_2).mu x < ((a3l E.length (g8 E R M) (15:Nat) (11:Nat) (12:Nat)).ann x_2).mu x_3∧(True∧True∧True∧(↑x_1:Int)=(↑x_1:Int)∧True∧E.length=E.length∧(↑E.length:Int)=(↑E.length:Int)∧(↑x_1:Int)=(↑x_1:Int)∧true=true∧(↑x_1:Int)=(↑x_1:Int)∧True∧E.length=E.length∧(↑E.length:Int)=(↑E.length:Int)∧IntKind.i64.wrap ((↑x_3:Int) + (1:Int))=(↑x:Int)∧True)∧eqA E.length (l5 E)∧eqA R.length (j5 R)∧eqA M.length (j9 M)∧(E.length=E.length∧R.length=R.length∧M.length=M.length)∧((0:Int)=(0:Int)∧True)∧(∀(x:Int),plM M x=plM M x)∧True∧(E.length=E.length∧R.length=R.length∧M.length=M.length)∧(True∧True)∧(((E.length=E.length∧R.length=R.length∧M.length=M.length)∧True∧True∧True∧(E.length=E.length∧R.length=R.length ∧
 M.length=M.length)∧True∧True∧E.length=E.length∧(↑E.length:Int)=(↑E.length:Int)∧(E.length=E.length∧R.length=R.length∧M.length=M.length)∧(True∧True)∧(True∧True)∧True)∧us=us)∧((0:Int)=(0:Int)∧True)∧((↑E.length:Int)=(↑E.length:Int)∧(b9 (g8 E R M) E.length x_2 ++ d7 (g8 E R M) x_2 x_3).length + (1:Nat)=(b9 (g8 E R M) E.length x_2 ++ d7 (g8 E R M) x_2 x).length)∧((b9 (g8 E R M) E.length x_2 ++ d7 (g8 E R M) x_2 x_3).length + (1:Nat)=(b9 (g8 E R M) E.length x_2 ++ d7 (g8 E R M) x_2 x).length∧(∀(j:Nat),j < (b9 (g8 E R M) E.length x_2 ++ d7 (g8 E R M) x_2 x).length→(bif j.blt (b9 (g8 E R M) E.length x_2 ++ d7 (g8 E R M) x_2 x_3).length then(b6 ((0:Int),(0:Int)) (b9 (g8 E R M) E.length x_2 ++ d7 (g8 E R M) x_2 x_3) j).fst else e8 [(↑x_1:Int)] (j - (b9 (g8 E R M) E.length x_2 ++ d7 (g8 E R M) x_2 x_3).length))=(b6 ((0:Int),(0:Int)) (b9 (g8 E R M) E.length x_2 ++ d7 (g8 E R M) x_2 x) j).fst)∧(∀(j:Nat),j < (b9 (g8 E R M) E.length x_2 ++ d7 (g8 E R M) x_2 x).length→(bif j.blt (b9 (g8 E R M) E.length x_2 ++ d7 (g8 E R M) x_2 x_3).length then(b6 ((0:Int),(0:Int)) (b9 (g8 E R M) E.length x_2 ++ d7 (g8 E R M) x_2 x_3) j).snd else e8 [(↑x_3:Int)] (j - (b9 (g8 E R M) E.length x_2 ++ d7 (g8 E R M) x_2 x_3).length))=(b6 ((0:Int),(0:Int)) (b9 (g8 E R M)
 E.length x_2 ++ d7 (g8 E R M) x_2 x) j).snd)∧True)∧(((↑E.length:Int)=(↑E.length:Int)∧(True∧True)∧True∧True∧True∧True∧True∧(↑E.length:Int)=(↑E.length:Int)∧((↑E.length:Int)=(↑E.length:Int)∧True)∧(True∧True)∧True∧True∧True∧True∧True∧True∧True∧True∧True)∧us_1=us_1)∧(us_1=us_1∧cd=cd)∧True)∧(((↑x_1:Int) != (↑x_3:Int) && rdE (b6 e0 E x_1) && wrE (b6 e0 E x_3) && (b6 e0 E x_1).ob == (b6 e0 E x_3).ob && (decide (b6 (0:Int) R x_1 < (0:Int)) || decide (a1e (plM M (b6 (0:Int) R x_1)) < a1e (plM M (↑x_3:Int))))) = !true→∃(x:Nat),(x≤E.length∧x_2 < E.length)∧((a3l E.length (g8 E R M) (15:Nat) (11:Nat) (12:Nat)).ann x_2).mu x < ((a3l E.length (g8 E R M) (15:Nat) (11:Nat) (12:Nat)).ann x_2).mu x_3∧(True∧True∧True∧(↑x_1:Int)=(↑x_1:Int)∧True∧E.length=E.length∧(↑E.length:Int)=(↑E.length:Int)∧(↑x_1:Int)=(↑x_1:Int)∧true=true∧(↑x_1:Int)=(↑x_1:Int)∧True∧E.length=E.length∧(↑E.length:Int)=(↑E.length:Int)∧IntKind.i64.wrap ((↑x_3:Int) + (1:Int))=(↑x:Int)∧True)∧eqA E.length (l5 E)∧eqA R.length (j5 R)∧eqA M.length (j9 M)∧(E.length=E.length∧R.length=R.length∧M.length=M.length)∧((0:Int)=(0:Int)∧True)∧(∀(x:Int),plM M x=plM M x)∧True∧(E.length=E.length∧R.length=R.length∧M.length=M.length)∧(True∧True)∧(((E.length=E.length ∧
 R.length=R.length∧M.length=M.length)∧True∧True∧True∧(E.length=E.length∧R.length=R.length∧M.length=M.length)∧True∧True∧E.length=E.length∧(↑E.length:Int)=(↑E.length:Int)∧(E.length=E.length∧R.length=R.length∧M.length=M.length)∧(True∧True)∧(True∧True)∧True)∧us=us)∧((0:Int)=(0:Int)∧True)∧((↑E.length:Int)=(↑E.length:Int)∧(b9 (g8 E R M) E.length x_2 ++ d7 (g8 E R M) x_2 x_3).length=(b9 (g8 E R M) E.length x_2 ++ d7 (g8 E R M) x_2 x).length)∧((b9 (g8 E R M) E.length x_2 ++ d7 (g8 E R M) x_2 x_3).length=(b9 (g8 E R M) E.length x_2 ++ d7 (g8 E R M) x_2 x).length∧(∀(j:Nat),j < (b9 (g8 E R M) E.length x_2 ++ d7 (g8 E R M) x_2 x).length→(b6 ((0:Int),(0:Int)) (b9 (g8 E R M) E.length x_2 ++ d7 (g8 E R M) x_2 x_3) j).fst=(b6 ((0:Int),(0:Int)) (b9 (g8 E R M) E.length x_2 ++ d7 (g8 E R M) x_2 x) j).fst)∧(∀(j:Nat),j < (b9 (g8 E R M) E.length x_2 ++ d7 (g8 E R M) x_2 x).length→(b6 ((0:Int),(0:Int)) (b9 (g8 E R M) E.length x_2 ++ d7 (g8 E R M) x_2 x_3) j).snd=(b6 ((0:Int),(0:Int)) (b9 (g8 E R M) E.length x_2 ++ d7 (g8 E R M) x_2 x) j).snd)∧True)∧(((↑E.length:Int)=(↑E.length:Int)∧(True∧True)∧True∧True∧True∧True∧True∧(↑E.length:Int)=(↑E.length:Int)∧((↑E.length:Int)=(↑E.length:Int)∧True)∧(True∧True)∧True∧True∧True∧True∧True ∧
 True∧True∧True∧True)∧us_1=us_1)∧(us_1=us_1∧cd=cd)∧True))∧(decide ((↑x_3:Int) < (↑E.length:Int))=false→∃(x_4:Nat),(x_4≤E.length∧True)∧((PLoop.of (a5a E.length (g8 E R M) (9:Nat) (11:Nat) (12:Nat))).ann x).mu x_4 < ((PLoop.of (a5a E.length (g8 E R M) (9:Nat) (11:Nat) (12:Nat))).ann x).mu x_1∧(True∧True∧True∧True∧E.length=E.length∧(↑E.length:Int)=(↑E.length:Int)∧IntKind.i64.wrap ((↑x_1:Int) + (1:Int))=(↑x_4:Int)∧True)∧eqA E.length (l5 E)∧eqA R.length (j5 R)∧eqA M.length (j9 M)∧(E.length=E.length∧R.length=R.length∧M.length=M.length)∧((0:Int)=(0:Int)∧True)∧(∀(x:Int),plM M x=plM M x)∧True∧(E.length=E.length∧R.length=R.length∧M.length=M.length)∧(True∧True)∧(((E.length=E.length∧R.length=R.length∧M.length=M.length)∧True∧True∧True∧(E.length=E.length∧R.length=R.length∧M.length=M.length)∧True∧True∧E.length=E.length∧(↑E.length:Int)=(↑E.length:Int)∧(E.length=E.length∧R.length=R.length∧M.length=M.length)∧(True∧True)∧(True∧True)∧True)∧us=us)∧((0:Int)=(0:Int)∧True)∧((↑E.length:Int)=(↑E.length:Int)∧(b9 (g8 E R M) E.length x_2 ++ d7 (g8 E R M) x_2 x_3).length=(b9 (g8 E R M) E.length x_4).length)∧((b9 (g8 E R M) E.length x_2 ++ d7 (g8 E R M) x_2 x_3).length=(b9 (g8 E R M) E.length x_4).length∧(∀(j:Nat),j < (b9
 (g8 E R M) E.length x_4).length→(b6 ((0:Int),(0:Int)) (b9 (g8 E R M) E.length x_2 ++ d7 (g8 E R M) x_2 x_3) j).fst=(b6 ((0:Int),(0:Int)) (b9 (g8 E R M) E.length x_4) j).fst)∧(∀(j:Nat),j < (b9 (g8 E R M) E.length x_4).length→(b6 ((0:Int),(0:Int)) (b9 (g8 E R M) E.length x_2 ++ d7 (g8 E R M) x_2 x_3) j).snd=(b6 ((0:Int),(0:Int)) (b9 (g8 E R M) E.length x_4) j).snd)∧True)∧(((↑E.length:Int)=(↑E.length:Int)∧(True∧True)∧True∧True∧True∧True∧True∧(↑E.length:Int)=(↑E.length:Int)∧((↑E.length:Int)=(↑E.length:Int)∧True)∧(True∧True)∧True∧True∧True∧True∧True∧True∧True∧True∧True)∧us_1=us_1)∧(us_1=us_1∧cd=cd)∧True))∧(decide ((↑x_1:Int) < (↑E.length:Int))=false→us_1=us_1∧us_1=us_1∧cd=cd∧(b9 (g8 E R M) E.length x_1).length=(b9 (g8 E R M) E.length x_1).length∧mkN (fun(j:Nat)=>((b6 ((0:Int),(0:Int)) (b9 (g8 E R M) E.length x_1) j).fst,(b6 ((0:Int),(0:Int)) (b9 (g8 E R M) E.length x_1) j).snd)) (b9 (g8 E R M) E.length x_1).length=b9 (g8 E R M) E.length E.length∧(b9 (g8 E R M) E.length E.length).length≤(1099511627776:Nat)∧us=us∧(AV.ps (bif d8 (↑E.length:Int) (b9 (g8 E R M) E.length E.length) then b7 (↑E.length:Int) (d9 (b9 (g8 E R M) E.length E.length)) else [])).len=(AV.ps (b7 (↑E.length:Int) (g8 E R M))).len∧((∀(j:Nat),j <
 (AV.ps (b7 (↑E.length:Int) (g8 E R M))).len→(b6 ((0:Int),(0:Int)) (bif d8 (↑E.length:Int) (b9 (g8 E R M) E.length E.length) then b7 (↑E.length:Int) (d9 (b9 (g8 E R M) E.length E.length)) else []) j).fst=(b6 ((0:Int),(0:Int)) (b7 (↑E.length:Int) (g8 E R M)) j).fst)∧(∀(j:Nat),j < (AV.ps (b7 (↑E.length:Int) (g8 E R M))).len→(b6 ((0:Int),(0:Int)) (bif d8 (↑E.length:Int) (b9 (g8 E R M) E.length E.length) then b7 (↑E.length:Int) (d9 (b9 (g8 E R M) E.length E.length)) else []) j).snd=(b6 ((0:Int),(0:Int)) (b7 (↑E.length:Int) (g8 E R M)) j).snd)∧True)∧(bif d8 (↑E.length:Int) (b9 (g8 E R M) E.length E.length) then(↑E.length:Int) else(0:Int))=(↑E.length:Int)∧(AV.ps (bif d8 (↑E.length:Int) (b9 (g8 E R M) E.length E.length) then b7 (↑E.length:Int) (d9 (b9 (g8 E R M) E.length E.length)) else [])).len=(AV.ps (b7 (↑E.length:Int) (g8 E R M))).len∧True)):=by kernel_rfl
theorem v49 (E:List Ev) (R:List Int) (M:List (List Int)) (h:pgF E R M 0 0):q49D E R M:=by
 rw[d5s]
 have h64:(E.length:Int)≤64:=h.1
 have hR:R.length=E.length:=h.2.1
 have hlen:=b5b (g8 E R M) (n:=E.length) (by omega)
 simp only[eq_self,true_and,and_true,z0o,imp_self,m5,m6,m9,g7,g9,PLoop.of,p9,AV.len,i5,z0s,j4,j7,j8,l7,l8,l9,a5a,a3l,PLoop.of,m9]
 refine⟨⟨⟨h.2.2.1.1,h.2.2.1.2⟩,h.2.2.2⟩,fun cd=>⟨(),⟨0,by simp,rfl,?_⟩,fun a ha=>⟨fun hlt=>⟨a,⟨0,?_⟩,fun b hb=>⟨fun hlb=>⟨⟨by have:=z0e hlt; have:=z0e hlb; omega,by have:=z0e hlt; have:=z0e hlb; omega⟩,(by have:=z0e hlt; have:=z0e hlb; omega),⟨by have:=z0e hlt; have:=z0e hlb; omega,by have:=z0e hlt; have:=z0e hlb; omega⟩,(by have:=z0e hlt; have:=z0e hlb; omega),(fun _=>⟨by have:=z0e hlt; have:=z0e hlb; omega,by have:=z0e hlt; have:=z0e hlb; omega⟩),(fun _=>by have:=z0e hlt; have:=z0e hlb; omega),(fun _ _=>⟨by have:=z0e hlt; have:=z0e hlb; omega,by have:=z0e hlt; have:=z0e hlb; omega⟩),(fun _ _=>by have:=z0e hlt; have:=z0e hlb; omega),fun hf=>?_,fun hf=>?_⟩,fun hlb=>?_⟩⟩,fun hlt=>?_⟩⟩⟩
 ·simp[a26]
 ·have ha2:a < E.length:=by have:=z0e hlt; omega
  simp[a3s,ha2]
 ·have hb2:b < E.length:=by have:=z0e hlb; omega
  have h1:=hlen a b hb.2 hb.1
  replace hf:(g8 E R M) a b=true:=hf
  have e:d7 (g8 E R M) a (b + 1)=d7 (g8 E R M) a b ++ [((a:Int),(b:Int))]:=by rw[z4,if_pos hf]
  have e2:b9 (g8 E R M) E.length a ++ d7 (g8 E R M) a (b + 1)=(b9 (g8 E R M) E.length a ++ d7 (g8 E R M) a b) ++ [((a:Int),(b:Int))]:=by rw[e,z1x]
  refine⟨by omega,by omega,b + 1,⟨by omega,hb.2⟩,by omega,wrS (n:=E.length) hb2 (by omega),?_⟩
  rw[e2]
  have e3:(b9 (g8 E R M) E.length a ++ d7 (g8 E R M) a b ++ [((a:Int),(b:Int))]).length=(b9 (g8 E R M) E.length a ++ d7 (g8 E R M) a b).length + 1:=by rw[z1a (bs:=[((a:Int),(b:Int))])]; rfl
  exact⟨e3.symm,e3.symm,ap1 (·.1) _ _,ap1 (·.2) _ _⟩
 ·have hb2:b < E.length:=by have:=z0e hlb; omega
  replace hf:(g8 E R M) a b=false:=hf
  have e:d7 (g8 E R M) a (b + 1)=d7 (g8 E R M) a b:=by rw[z4,if_neg (by rw[hf]; simp),z1f]
  refine⟨b + 1,⟨by omega,hb.2⟩,by omega,wrS (n:=E.length) hb2 (by omega),?_⟩
  rw[e]
  simp
 ·have hb2:b=E.length:=by have:=z0m hlb; omega
  have e:b9 (g8 E R M) E.length (a + 1)=b9 (g8 E R M) E.length a ++ d7 (g8 E R M) a b:=by rw[a15,hb2]
  refine⟨a + 1,by omega,by omega,wrS (n:=E.length) hb.2 (by omega),?_⟩
  rw[e]
  simp
 ·have ha2:a=E.length:=by have:=z0m hlt; omega
  subst ha2
  obtain⟨n1,n2⟩:=a7k (g8 E R M) (n:=E.length) (by omega)
  have h1:=a2j (g8 E R M) E.length E.length
  have h3:E.length * E.length≤64 * 64:=z2v (by omega) (by omega)
  rw[n1]
  simp only[z0g,n2]
  simp only[z0o,and_self,and_true,true_and]
  omega
theorem n62 (nm:List (Option AV)):CallOk Tryz.prog [] 62 (n6 EL none nm [PG] (a6k pgM i4)):=x4 Tryz.func62 fo62 fun av pre rv h=>by
 unfold a6k at h; split at h <;> cases h
 exact⟨⟨rfl,fun t a e=>by cases e <;> exact z0h _ _⟩,fun hp=>⟨_,v62 _ _ _ (hp _ (.head _)),rfl,(m4 c9k (m4 (n104 _) (m4 (c43 _) (m4 (n81 _) t6)))),(a3f c95 (a3f c22 (a3f d88 t7)))⟩⟩
theorem n49 (nm:List (Option AV)):CallOk Tryz.prog [] 49 (n6 EL none nm [PG] (a6k pgF g8)):=x4 Tryz.func49 fo49 fun av pre rv h=>by
 unfold a6k at h; split at h <;> cases h
 exact⟨⟨rfl,fun t a e=>by cases e <;> exact z0h _ _⟩,fun hp=>⟨_,v49 _ _ _ (hp _ (.head _)),rfl,(m4 c9k (m4 (n104 _) (m4 (c43 _) (m4 (n81 _) (m4 (n80 _) t6))))),(a3f c95 (a3f c22 (a3f d86 t7)))⟩⟩
def f8:GF:=fun E _ _ i k=>decide (i < k) && a9r (evA E i) (evA E k)
def c3p (n:Nat) (f:Pf) (t c e:Nat):PLoop:=⟨Nat,fun a=>{ X:=Nat,inv:=fun b=>a < n∧a + 1≤b∧b≤n,slots:=fun b=>[(t,.i .i64 (b:Int))],mem:=fun b=>[(c,.cells [.i .i64 (n:Int),.sl e (b9 f n a ++ d7 f a b).length]),b8v e (b9 f n a ++ d7 f a b)],mu:=fun b=>n - b,kill:=[e] }⟩
noncomputable def lisI (n:Nat) (f:Pf) (c e:Nat):Nat × Inl:=(112,{ fn:=Tryz.f112,loops:=[(0,.of (a5a n f 10 c e)),(2,c3p n f 6 c e)] })
def PL:PK:=.cl 112 58 [.es,.is,.rs]
def d4h:SpG:=fun
 | [.lf (.i n),.cl 112 58 [.es E,.is R,.rs M]]=>some ([n=E.length∧(E.length:Int)≤64],a9m E.length (b7 E.length (f8 E R M)))
 | _=>none
def d3q (nm:List (Option AV)):Nat × (List MBlk→List SV→Option AR):=(56,n6 EL none nm [.lf .i,PL] d4h)
def d8d:Nat × (List MBlk→List SV→Option AR):=kE2 58 a9r
def liM (E:List Ev) (R:List Int) (M:List (List Int)):List MBlk:=[.old [.sl 2 E.length,.sl 3 R.length,.sl 4 M.length],.old [.fn 58 []],.arr E.length (l5 E),.arr R.length (j5 R),.arr M.length (j9 M)]
theorem d4t {E:List Ev} {R:List Int} {M:List (List Int)} {i k:Int} (h:k≤i):f8 E R M i k=false:=by
 have:decide (i < k)=false:=by simpa using h
 simp only[f8,this,Bool.false_and]
theorem c4o {f:Pf} {a:Nat}:∀ {b:Nat},(∀ j:Nat,j < b→f a j=false)→d7 f a b=[]:=by
 intro b
 induction b with
 | zero=>intro _; exact a3s f a
 | succ b ih=>intro h; rw[z4,ih fun j hj=>h j (by omega),h b (by omega)]; simp
theorem d73:o6 Tryz.prog 112:=⟨Tryz.f112,Tryz.func112,by kernel_rfl,by kernel_rfl⟩
theorem d87 {l:List (Nat × PLoop)} {t:List (Nat × (List Slot→List MBlk→List Gh))} {s:List Nat}:a2e (112,⟨Tryz.f112,l,t,s⟩):=⟨Tryz.func112,d73⟩
def q56D (E:List Ev) (R:List Int) (M:List (List Int)) (n:Int):Prop:=n7 (({ calls:=[d8d,c3k (no 7 ++ [some (.ps (b9 (f8 E R M) E.length E.length))])],inl:=[lisI E.length (f8 E R M) 6 7],takes:=[(2,fun _ _=>[.fresh 6 1 67 2])] }:Kit)).tab Tryz.f56 [.i .i64 n,.fn 112 [.ptr 0 0,.ptr 1 0]] (liM E R M) ((a9m E.length (b7 E.length (f8 E R M))).post EL)
theorem d5x (E:List Ev) (R:List Int) (M:List (List Int)) (n:Int):q56D E R M n=(∀(us:List Value) (cd:LupCd) (x:Option Addr × Nat),∃(x:PUnit),(∃(x:Nat),(x≤E.length∧True)∧((0:Int)=(↑x:Int)∧True)∧(n=(↑E.length:Int)∧(0:Nat)=(b9 (f8 E R M) E.length x).length)∧((0:Nat)=(b9 (f8 E R M) E.length x).length∧(b9 (f8 E R M) E.length x).length=(0:Nat)∧(b9 (f8 E R M) E.length x).length=(0:Nat)∧True)∧True)∧∀(x_1:Nat),x_1≤E.length∧True→(decide ((↑x_1:Int) < (↑E.length:Int))=true→((0:Int)≤(↑x_1:Int)∧(↑x_1:Int) < (↑E.length:Int))∧x_1 < E.length∧∃(x_2:Nat),(∃(x:Nat),(x_2 < E.length∧x_2 + (1:Nat)≤x∧x≤E.length)∧(IntKind.i64.wrap ((↑x_1:Int) + (1:Int))=(↑x:Int)∧True)∧((↑E.length:Int)=(↑E.length:Int)∧(b9 (f8 E R M) E.length x_1).length=(b9 (f8 E R M) E.length x_2 ++ d7 (f8 E R M) x_2 x).length)∧((b9 (f8 E R M) E.length x_1).length=(b9 (f8 E R M) E.length x_2 ++ d7 (f8 E R M) x_2 x).length∧(∀(j:Nat),j < (b9 (f8 E R M) E.length x_2 ++ d7 (f8 E R M) x_2 x).length→(b6 ((0:Int),(0:Int)) (b9 (f8 E R M) E.length x_1) j).fst=(b6 ((0:Int),(0:Int)) (b9 (f8 E R M) E.length x_2 ++ d7 (f8 E R M) x_2 x) j).fst)∧(∀(j:Nat),j < (b9 (f8 E R M) E.length x_2 ++ d7 (f8 E R M) x_2 x).length→(b6 ((0:Int),(0:Int)) (b9 (f8 E R M) E.length x_1) j).snd=(b6 ((0:Int),(0:Int)) (b9 (f8 E R M) E.length x_2 ++ d7 (f8 E R M) x_2 x) j).snd) ∧
 True)∧True)∧∀(x_3:Nat),x_2 < E.length∧x_2 + (1:Nat)≤x_3∧x_3≤E.length→(decide ((↑x_3:Int) < (↑E.length:Int))=true→((0:Int)≤(↑x_3:Int)∧(↑x_3:Int) < (↑E.length:Int))∧x_3 < E.length∧(a9r (b6 e0 E x_1) (b6 e0 E x_3)=true→∀(us_1:List Value),us=us∧cd=cd∧us=us∧us=us∧cd=cd∧(b9 (f8 E R M) E.length x_2 ++ d7 (f8 E R M) x_2 x_3).length=(b9 (f8 E R M) E.length x_2 ++ d7 (f8 E R M) x_2 x_3).length∧(1:Nat)=(1:Nat)∧((b9 (f8 E R M) E.length x_2 ++ d7 (f8 E R M) x_2 x_3).length + (1:Nat)) * (16:Nat)≤(140737488355328:Nat)∧(b9 (f8 E R M) E.length x_2 ++ d7 (f8 E R M) x_2 x_3).length + (1:Nat)≤(9223372036854775807:Nat)∧us=us∧cd=cd∧us_1=us_1∧∃(x:Nat),(x_2 < E.length∧x_2 + (1:Nat)≤x∧x≤E.length)∧((c3p E.length (f8 E R M) (6:Nat) (6:Nat) (7:Nat)).ann x_2).mu x < ((c3p E.length (f8 E R M) (6:Nat) (6:Nat) (7:Nat)).ann x_2).mu x_3∧(True∧True∧True∧(↑x_1:Int)=(↑x_1:Int)∧True∧IntKind.i64.wrap ((↑x_3:Int) + (1:Int))=(↑x:Int)∧True∧E.length=E.length∧(↑E.length:Int)=(↑E.length:Int)∧(↑x_1:Int)=(↑x_1:Int)∧true=true∧(↑x_1:Int)=(↑x_1:Int)∧x_1=x_1∧((b6 e0 E x_1).ag=(b6 e0 E x_1).ag∧(b6 e0 E x_1).ix=(b6 e0 E x_1).ix∧(b6 e0 E x_1).k=(b6 e0 E x_1).k∧(b6 e0 E x_1).ob=(b6 e0 E x_1).ob∧(b6 e0 E x_1).mu=(b6 e0 E x_1).mu∧(b6 e0 E
 x_1).en=(b6 e0 E x_1).en∧(b6 e0 E x_1).od=(b6 e0 E x_1).od∧(b6 e0 E x_1).rd=(b6 e0 E x_1).rd∧(b6 e0 E x_1).wr=(b6 e0 E x_1).wr)∧(↑x_1:Int)=(↑x_1:Int)∧IntKind.i64.wrap ((↑x_1:Int) + (1:Int))=IntKind.i64.wrap ((↑x_1:Int) + (1:Int))∧True)∧(E.length=E.length∧R.length=R.length∧M.length=M.length)∧True∧eqA E.length (l5 E)∧eqA R.length (j5 R)∧eqA M.length (j9 M)∧((0:Int)=(0:Int)∧True)∧((↑E.length:Int)=(↑E.length:Int)∧(b9 (f8 E R M) E.length x_2 ++ d7 (f8 E R M) x_2 x_3).length + (1:Nat)=(b9 (f8 E R M) E.length x_2 ++ d7 (f8 E R M) x_2 x).length)∧((b9 (f8 E R M) E.length x_2 ++ d7 (f8 E R M) x_2 x_3).length + (1:Nat)=(b9 (f8 E R M) E.length x_2 ++ d7 (f8 E R M) x_2 x).length∧(∀(j:Nat),j < (b9 (f8 E R M) E.length x_2 ++ d7 (f8 E R M) x_2 x).length→(bif j.blt (b9 (f8 E R M) E.length x_2 ++ d7 (f8 E R M) x_2 x_3).length then(b6 ((0:Int),(0:Int)) (b9 (f8 E R M) E.length x_2 ++ d7 (f8 E R M) x_2 x_3) j).fst else e8 [(↑x_1:Int)] (j - (b9 (f8 E R M) E.length x_2 ++ d7 (f8 E R M) x_2 x_3).length))=(b6 ((0:Int),(0:Int)) (b9 (f8 E R M) E.length x_2 ++ d7 (f8 E R M) x_2 x) j).fst)∧(∀(j:Nat),j < (b9 (f8 E R M) E.length x_2 ++ d7 (f8 E R M) x_2 x).length→(bif j.blt (b9 (f8 E R M) E.length x_2 ++ d7 (f8 E R M) x_2 x_3).length then(b6 ((0:Int),(0:Int))
 (b9 (f8 E R M) E.length x_2 ++ d7 (f8 E R M) x_2 x_3) j).snd else e8 [(↑x_3:Int)] (j - (b9 (f8 E R M) E.length x_2 ++ d7 (f8 E R M) x_2 x_3).length))=(b6 ((0:Int),(0:Int)) (b9 (f8 E R M) E.length x_2 ++ d7 (f8 E R M) x_2 x) j).snd)∧True)∧((n=n∧(True∧True)∧True∧True∧True∧True∧True∧n=n∧(n=n∧True)∧(True∧True)∧True∧True∧True∧True∧True∧True∧True∧True∧True)∧us=us)∧(us=us∧cd=cd)∧((b6 e0 E x_1).ag=(b6 e0 E x_1).ag∧(b6 e0 E x_1).ix=(b6 e0 E x_1).ix∧(b6 e0 E x_1).k=(b6 e0 E x_1).k∧(b6 e0 E x_1).ob=(b6 e0 E x_1).ob∧(b6 e0 E x_1).mu=(b6 e0 E x_1).mu∧(b6 e0 E x_1).en=(b6 e0 E x_1).en∧(b6 e0 E x_1).od=(b6 e0 E x_1).od∧(b6 e0 E x_1).rd=(b6 e0 E x_1).rd∧(b6 e0 E x_1).wr=(b6 e0 E x_1).wr)∧True)∧(a9r (b6 e0 E x_1) (b6 e0 E x_3) = !true→∃(x:Nat),(x_2 < E.length∧x_2 + (1:Nat)≤x∧x≤E.length)∧((c3p E.length (f8 E R M) (6:Nat) (6:Nat) (7:Nat)).ann x_2).mu x < ((c3p E.length (f8 E R M) (6:Nat) (6:Nat) (7:Nat)).ann x_2).mu x_3∧(True∧True∧True∧(↑x_1:Int)=(↑x_1:Int)∧True∧IntKind.i64.wrap ((↑x_3:Int) + (1:Int))=(↑x:Int)∧True∧E.length=E.length∧(↑E.length:Int)=(↑E.length:Int)∧(↑x_1:Int)=(↑x_1:Int)∧true=true∧(↑x_1:Int)=(↑x_1:Int)∧x_1=x_1∧((b6 e0 E x_1).ag=(b6 e0 E x_1).ag∧(b6 e0 E x_1).ix=(b6 e0 E x_1).ix ∧
 (b6 e0 E x_1).k=(b6 e0 E x_1).k∧(b6 e0 E x_1).ob=(b6 e0 E x_1).ob∧(b6 e0 E x_1).mu=(b6 e0 E x_1).mu∧(b6 e0 E x_1).en=(b6 e0 E x_1).en∧(b6 e0 E x_1).od=(b6 e0 E x_1).od∧(b6 e0 E x_1).rd=(b6 e0 E x_1).rd∧(b6 e0 E x_1).wr=(b6 e0 E x_1).wr)∧(↑x_1:Int)=(↑x_1:Int)∧IntKind.i64.wrap ((↑x_1:Int) + (1:Int))=IntKind.i64.wrap ((↑x_1:Int) + (1:Int))∧True)∧(E.length=E.length∧R.length=R.length∧M.length=M.length)∧True∧eqA E.length (l5 E)∧eqA R.length (j5 R)∧eqA M.length (j9 M)∧((0:Int)=(0:Int)∧True)∧((↑E.length:Int)=(↑E.length:Int)∧(b9 (f8 E R M) E.length x_2 ++ d7 (f8 E R M) x_2 x_3).length=(b9 (f8 E R M) E.length x_2 ++ d7 (f8 E R M) x_2 x).length)∧((b9 (f8 E R M) E.length x_2 ++ d7 (f8 E R M) x_2 x_3).length=(b9 (f8 E R M) E.length x_2 ++ d7 (f8 E R M) x_2 x).length∧(∀(j:Nat),j < (b9 (f8 E R M) E.length x_2 ++ d7 (f8 E R M) x_2 x).length→(b6 ((0:Int),(0:Int)) (b9 (f8 E R M) E.length x_2 ++ d7 (f8 E R M) x_2 x_3) j).fst=(b6 ((0:Int),(0:Int)) (b9 (f8 E R M) E.length x_2 ++ d7 (f8 E R M) x_2 x) j).fst)∧(∀(j:Nat),j < (b9 (f8 E R M) E.length x_2 ++ d7 (f8 E R M) x_2 x).length→(b6 ((0:Int),(0:Int)) (b9 (f8 E R M) E.length x_2 ++ d7 (f8 E R M) x_2 x_3) j).snd=(b6 ((0:Int),(0:Int)) (b9 (f8 E R M) E.length x_2 ++ d7 (f8 E R M) x_2 x)
 j).snd)∧True)∧((n=n∧(True∧True)∧True∧True∧True∧True∧True∧n=n∧(n=n∧True)∧(True∧True)∧True∧True∧True∧True∧True∧True∧True∧True∧True)∧us=us)∧(us=us∧cd=cd)∧((b6 e0 E x_1).ag=(b6 e0 E x_1).ag∧(b6 e0 E x_1).ix=(b6 e0 E x_1).ix∧(b6 e0 E x_1).k=(b6 e0 E x_1).k∧(b6 e0 E x_1).ob=(b6 e0 E x_1).ob∧(b6 e0 E x_1).mu=(b6 e0 E x_1).mu∧(b6 e0 E x_1).en=(b6 e0 E x_1).en∧(b6 e0 E x_1).od=(b6 e0 E x_1).od∧(b6 e0 E x_1).rd=(b6 e0 E x_1).rd∧(b6 e0 E x_1).wr=(b6 e0 E x_1).wr)∧True))∧(decide ((↑x_3:Int) < (↑E.length:Int))=false→∃(x_4:Nat),(x_4≤E.length∧True)∧((PLoop.of (a5a E.length (f8 E R M) (10:Nat) (6:Nat) (7:Nat))).ann x).mu x_4 < ((PLoop.of (a5a E.length (f8 E R M) (10:Nat) (6:Nat) (7:Nat))).ann x).mu x_1∧(True∧True∧True∧True∧E.length=E.length∧(↑E.length:Int)=(↑E.length:Int)∧IntKind.i64.wrap ((↑x_1:Int) + (1:Int))=(↑x_4:Int)∧True)∧(E.length=E.length∧R.length=R.length∧M.length=M.length)∧True∧eqA E.length (l5 E)∧eqA R.length (j5 R)∧eqA M.length (j9 M)∧((0:Int)=(0:Int)∧True)∧((↑E.length:Int)=(↑E.length:Int)∧(b9 (f8 E R M) E.length x_2 ++ d7 (f8 E R M) x_2 x_3).length=(b9 (f8 E R M) E.length x_4).length)∧((b9 (f8 E R M) E.length x_2 ++ d7 (f8 E R M) x_2 x_3).length=(b9 (f8 E R M) E.length x_4).length∧(∀(j :
 Nat),j < (b9 (f8 E R M) E.length x_4).length→(b6 ((0:Int),(0:Int)) (b9 (f8 E R M) E.length x_2 ++ d7 (f8 E R M) x_2 x_3) j).fst=(b6 ((0:Int),(0:Int)) (b9 (f8 E R M) E.length x_4) j).fst)∧(∀(j:Nat),j < (b9 (f8 E R M) E.length x_4).length→(b6 ((0:Int),(0:Int)) (b9 (f8 E R M) E.length x_2 ++ d7 (f8 E R M) x_2 x_3) j).snd=(b6 ((0:Int),(0:Int)) (b9 (f8 E R M) E.length x_4) j).snd)∧True)∧((n=n∧(True∧True)∧True∧True∧True∧True∧True∧n=n∧(n=n∧True)∧(True∧True)∧True∧True∧True∧True∧True∧True∧True∧True∧True)∧us=us)∧(us=us∧cd=cd)∧True))∧(decide ((↑x_1:Int) < (↑E.length:Int))=false→us=us∧us=us∧cd=cd∧(b9 (f8 E R M) E.length x_1).length=(b9 (f8 E R M) E.length x_1).length∧mkN (fun(j:Nat)=>((b6 ((0:Int),(0:Int)) (b9 (f8 E R M) E.length x_1) j).fst,(b6 ((0:Int),(0:Int)) (b9 (f8 E R M) E.length x_1) j).snd)) (b9 (f8 E R M) E.length x_1).length=b9 (f8 E R M) E.length E.length∧(b9 (f8 E R M) E.length E.length).length≤(1099511627776:Nat)∧(AV.ps (bif d8 (↑E.length:Int) (b9 (f8 E R M) E.length E.length) then b7 (↑E.length:Int) (d9 (b9 (f8 E R M) E.length E.length)) else [])).len=(AV.ps (b7 (↑E.length:Int) (f8 E R M))).len∧((∀(j:Nat),j < (AV.ps (b7 (↑E.length:Int) (f8 E R M))).len→(b6 ((0:Int),(0:Int)) (bif d8 (↑E.length :
 Int) (b9 (f8 E R M) E.length E.length) then b7 (↑E.length:Int) (d9 (b9 (f8 E R M) E.length E.length)) else []) j).fst=(b6 ((0:Int),(0:Int)) (b7 (↑E.length:Int) (f8 E R M)) j).fst)∧(∀(j:Nat),j < (AV.ps (b7 (↑E.length:Int) (f8 E R M))).len→(b6 ((0:Int),(0:Int)) (bif d8 (↑E.length:Int) (b9 (f8 E R M) E.length E.length) then b7 (↑E.length:Int) (d9 (b9 (f8 E R M) E.length E.length)) else []) j).snd=(b6 ((0:Int),(0:Int)) (b7 (↑E.length:Int) (f8 E R M)) j).snd)∧True)∧(bif d8 (↑E.length:Int) (b9 (f8 E R M) E.length E.length) then(↑E.length:Int) else(0:Int))=(↑E.length:Int)∧(AV.ps (bif d8 (↑E.length:Int) (b9 (f8 E R M) E.length E.length) then b7 (↑E.length:Int) (d9 (b9 (f8 E R M) E.length E.length)) else [])).len=(AV.ps (b7 (↑E.length:Int) (f8 E R M))).len∧True)):=by kernel_rfl
theorem v56 (E:List Ev) (R:List Int) (M:List (List Int)) (n:Int) (h:n=E.length∧(E.length:Int)≤64):q56D E R M n:=by
 rw[d5x]
 have h64:(E.length:Int)≤64:=h.2
 have hn:=h.1
 subst hn
 have hlen:=b5b (f8 E R M) (n:=E.length) (by omega)
 simp only[eq_self,true_and,and_true,z0o,imp_self,m5,m6,m9,g7,g9,PLoop.of,p9,AV.len,i5,z0s,j4,j7,j8,l7,l8,l9,a5a,c3p,PLoop.of,m9]
 refine fun cd=>⟨(),⟨0,by simp,rfl,?_⟩,fun a ha=>⟨fun hlt=>⟨⟨by omega,z0e hlt⟩,?_,a,⟨a + 1,?_⟩,fun b hb=>⟨fun hlb=>⟨⟨by omega,z0e hlb⟩,?_,fun hf=>?_,fun hf=>?_⟩,fun hlb=>?_⟩⟩,fun hlt=>?_⟩⟩
 ·simp[a26]
 ·have:=z0e hlt; omega
 ·have ha2:a < E.length:=by have:=z0e hlt; omega
  have e:d7 (f8 E R M) a (a + 1)=[]:=c4o fun j hj=>d4t (by omega)
  rw[e,z1f]
  exact⟨⟨ha2,by omega,by omega⟩,wrS (n:=E.length) ha2 (by omega),rfl,rfl,fun _ _=>rfl,fun _ _=>rfl⟩
 ·have:=z0e hlb; omega
 ·have hb2:b < E.length:=by have:=z0e hlb; omega
  have h1:=hlen a b hb.1 hb.2.2
  replace hf:(f8 E R M) a b=true:=by
   have:decide ((a:Int) < (b:Int))=true:=by simp; omega
   simp only[f8,this,z1o]; exact hf
  have e:d7 (f8 E R M) a (b + 1)=d7 (f8 E R M) a b ++ [((a:Int),(b:Int))]:=by rw[z4,if_pos hf]
  have e2:b9 (f8 E R M) E.length a ++ d7 (f8 E R M) a (b + 1)=(b9 (f8 E R M) E.length a ++ d7 (f8 E R M) a b) ++ [((a:Int),(b:Int))]:=by rw[e,z1x]
  refine⟨by omega,by omega,b + 1,⟨hb.1,by omega,by omega⟩,by omega,wrS (n:=E.length) hb2 (by omega),?_⟩
  rw[e2]
  have e3:(b9 (f8 E R M) E.length a ++ d7 (f8 E R M) a b ++ [((a:Int),(b:Int))]).length=(b9 (f8 E R M) E.length a ++ d7 (f8 E R M) a b).length + 1:=by rw[z1a (bs:=[((a:Int),(b:Int))])]; rfl
  exact⟨e3.symm,e3.symm,ap1 (·.1) _ _,ap1 (·.2) _ _⟩
 ·have hb2:b < E.length:=by have:=z0e hlb; omega
  replace hf:(f8 E R M) a b=false:=by
   have:decide ((a:Int) < (b:Int))=true:=by simp; omega
   simp only[f8,this,z1o]; exact hf
  have e:d7 (f8 E R M) a (b + 1)=d7 (f8 E R M) a b:=by rw[z4,if_neg (by rw[hf]; simp),z1f]
  refine⟨b + 1,⟨hb.1,by omega,by omega⟩,by omega,wrS (n:=E.length) hb2 (by omega),?_⟩
  rw[e]
  simp
 ·have hb2:b=E.length:=by have:=z0m hlb; omega
  have e:b9 (f8 E R M) E.length (a + 1)=b9 (f8 E R M) E.length a ++ d7 (f8 E R M) a b:=by rw[a15,hb2]
  refine⟨a + 1,by omega,by omega,wrS (n:=E.length) hb.1 (by omega),?_⟩
  rw[e]
  simp
 ·have ha2:a=E.length:=by have:=z0m hlt; omega
  subst ha2
  obtain⟨n1,n2⟩:=a7k (f8 E R M) (n:=E.length) (by omega)
  have h1:=a2j (f8 E R M) E.length E.length
  have h3:E.length * E.length≤64 * 64:=z2v (by omega) (by omega)
  rw[n1]
  simp only[z0g,n2]
  simp only[z0o,and_self,and_true,true_and]
  omega
theorem n56 (nm:List (Option AV)):CallOk Tryz.prog [] 56 (n6 EL none nm [.lf .i,PL] d4h):=x4 Tryz.func56 fo56 fun av pre rv h=>by
 unfold d4h at h; split at h <;> cases h
 exact⟨⟨rfl,fun t a e=>by cases e <;> exact z0h _ _⟩,fun hp=>⟨_,v56 _ _ _ _ (hp _ (.head _)),rfl,(m4 (n58 _) (m4 (c43 _) t6)),(a3f d87 t7)⟩⟩
def a2h (R:List Int) (x:Int):Nat→List Int
 | 0=>[]
 | s + 1=>a2h R x s ++ [atF R x s]
def a4n (R:List Int) (x:Int) (s:Nat):Bool:=decide (atF R x s < 0) || (a2h R x s).contains (atF R x s)
def chS (R:List Int) (x:Int):Nat→Nat→Nat
 | 0,s=>s
 | f + 1,s=>bif a4n R x s then s else chS R x f (s + 1)
def swR (E:List Ev) (R:List Int) (x:Int) (k:Int):Nat→List Pq
 | 0=>[]
 | s + 1=>bif (evA E (atF R x s)).od == 2 then swR E R x k s ++ [(atF R x s,k)] else swR E R x k s
def swK (E:List Ev) (R:List Int) (k:Int):List Pq:=bif !rdE (evA E k) || (evA E k).od != 2 then [] else swR E R (inA R k) k (chS R (inA R k) (E.length + 1) 0)
def swP (E:List Ev) (R:List Int):Nat→List Pq
 | 0=>[]
 | k + 1=>swP E R k ++ swK E R k
def p8:GF:=fun E R _=>d9 (swP E R E.length)
def chIn (E:List Ev) (R:List Int) (k s:Nat):Prop:=k < E.length∧rdE (evA E k)=true∧(evA E k).od=2∧(∀ j:Nat,j < s→0≤atF R (inA R k) j∧atF R (inA R k) j < E.length)∧(a2h R (inA R k) s).Nodup∧chS R (inA R k) (E.length + 1) 0=chS R (inA R k) (E.length + 1 - s) s
def lSw (E:List Ev) (R:List Int) (t c e:Nat):LAnn:=p9 E.length t (fun _=>True) (fun k=>[(c,.cells [.i .i64 (E.length:Int),.sl e (swP E R k).length]),b8v e (swP E R k)]) [e]
def lCh (E:List Ev) (R:List Int) (t c e r:Nat):PLoop:=⟨Nat,fun k=>{ X:=Nat,inv:=chIn E R k,slots:=fun s=>[(t,.i .i64 (atF R (inA R k) s))],mem:=fun s=>[(c,.cells [.i .i64 (E.length:Int),.sl e (swP E R k ++ swR E R (inA R k) k s).length]),b8v e (swP E R k ++ swR E R (inA R k) k s),(r,.mapi .i64 none (a2g (a2h R (inA R k) s)))],mu:=fun s=>E.length + 1 - s,kill:=[e] }⟩
noncomputable def chI (E:List Ev) (R:List Int) (c e r:Nat):Nat × Inl:=(146,{ fn:=Tryz.f146,loops:=[(0,lCh E R 5 c e r)] })
def kChn:Nat × (List MBlk→List SV→Option AR):=(108,b69)
def pgS:GP:=fun E R _ _ _=>(E.length:Int)≤64∧b0x E R
end Go.Proofs.YtaeeaniofljmnaaGreatDoor
